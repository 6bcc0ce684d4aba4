/- The earliest and the latest case: the walk. -/
import Derived.Test.YthdbkhdiaehblaaT32
import Derived.Test.YthdbkhdiaehblaaE7
namespace Go.Proofs.Ythdbkhdiaehblaa.T
open Go.RowKit Go.Proofs.YthdbkhdiaehblaaW.PrintWords Go.Proofs.YthdbkhdiaehblaaW.PrintMore
open Go.Proofs.Ythdbkhdiaehblaa.P
set_option linter.unusedVariables false
/-- Two rows of ours that are not one. -/
def Ap (v u : Value) : Prop := ∀ k, v.ownBlock = some k → some k ≠ u.ownBlock
theorem Ap.symm {v u : Value} (h : Ap v u) : Ap u v := fun k hk e => h k e.symm hk.symm
theorem Ap.nil (u : Value) : Ap (.slice none 0 0) u := fun k hk => by simp [Value.ownBlock] at hk
theorem Ap.after {v v1 u : Value} {N : Nat} (h : Ap v u) (hat : v1.ownBlock = v.ownBlock ∨ ∃ k, v1.ownBlock = some k ∧ N ≤ k) (hu : ∀ k, u.ownBlock = some k → k < N) : Ap v1 u := by
  intro k hk e
  rcases hat with hat | ⟨b, hb, hle⟩
  · exact h k (hat ▸ hk) e
  · rw [hb] at hk
    injection hk with hk
    have := hu k e.symm
    omega
abbrev kI : Kd Int := Kd.int .i64
theorem R_beside {e base : Nat} {ok : Nat → Prop} {W w1 : World} {u v : Value} {xs : List Int} (h : kI.R e W base ok u xs) (hg : W.grownBy w1 v.ownBlock) (ha : Ap v u) : kI.R e w1 base ok u xs :=
  Kd.R_mono (Kd.R_grown (Kd.R_tight (show kI.E = [] from rfl) h) hg (fun k hk e_ => ha k e_.symm hk)) (fun k hk => h.1 k hk.symm)
theorem C_int1 {w : World} {g : Nat} {x : Int} (b : w.heap[g]? = some (.cells #[.int .i64 x] 3 (0, 0))) : kI.C w (some ⟨g, 0, none⟩) 1 [x] := by
  refine ⟨rfl, by omega, fun _ => ⟨_, rfl, fun j p hj => ?_⟩⟩
  rcases j with _ | j
  · cases hj
    refine ⟨[.int .i64 x], rfl, rfl, fun i u hu => ?_⟩
    rcases i with _ | i
    · cases hu; exact blk_cell b 0
    · simp at hu
  · simp at hj
theorem int_made {W : World} {base : Nat} (x : Int) (cs : List Value) (h : kI.K W x cs) : kI.M W base (fun _ => False) x cs := h
set_option maxRecDepth 100000 in
theorem lit47 (x : Int) (W : World) : (Instr.buildSlice 47 1 #[(0, .int .i64 x)]).run Try.prog W = .ok (.slice (some ⟨W.heap.size, 0, none⟩) 1 1) (W.alloc (.cells #[.int .i64 x] 3 (0, 0))) := by
  have hu47 := Try.underlying47
  go_simp
set_option maxRecDepth 100000 in
theorem build49 (a : Int) (W : World) : (Instr.build 49 #[(2, .int .i64 a)]).run Try.prog W = .ok (.agg #[.slice none 0 0, .slice none 0 0, .int .i64 a]) W := by
  have hu3 := Try.underlying3
  have hu47 := Try.underlying47
  have hu49 := Try.underlying49
  go_simp
theorem info49z : (Try.prog.info? 49).map (·.zero) = some (some (.agg #[.slice none 0 0, .slice none 0 0, .int .i64 0])) := by kernel_rfl
theorem case_one (A A' : Option Addr) (n n' c c' : Nat) (a : Int) : (#[.slice A n c, .slice A' n' c', .int .i64 a] : Array Value).all (·.oneCell') = true := by simp [Value.oneCell']
theorem Keeps_w {B B' : Nat → Prop} {v W : World} (h : E.Keeps B v W) (hb : ∀ k, B' k → B k) : E.Keeps B' v W := fun q u hB hq => h q u (hb _ hB) hq

theorem row_free {w W : World} {v : Value} {xs : List Int} {g3 g7 : Nat} {c3 c7 : Array Value} (h : kI.R 3 W w.heap.size (fun _ => True) v xs) (b3 : W.heap[g3]? = some (.cells c3 25 (0, 0))) (b7 : W.heap[g7]? = some (.cells c7 49 (0, 0))) : ∀ k, v.ownBlock = some k → ¬ (k < w.heap.size ∨ k = g3 ∨ k = g7) := by
  intro k hk hh
  have h1 := Kd.R_base h k hk
  have h3 := Kd.R_ne h b3 (by decide)
  have h7 := Kd.R_ne h b7 (by decide)
  rcases hh with hh | rfl | rfl
  · omega
  · exact h3 hk.symm
  · exact h7 hk.symm

set_option maxRecDepth 100000 in
set_option maxHeartbeats 8000000 in

theorem bound_late (H : Hs) (l : List S36) (A1 : Option Addr) (c1 : Nat) (w : World) (hn : l.length ≤ 1000) (hr : Kd.C k36 w A1 l.length l) (hc : l.length ≤ c1) :
    Calls Try.prog 50 #[hv H, .slice A1 l.length c1, .bool true] w fun e w' => ∃ Ar cr Ac cc, e = .returned (.agg #[.slice Ar l.length cr, .slice Ac l.length cc, .int .i64 H.dl]) ∧ Kd.C kI w' Ar l.length (l.map fun s => s.f2.f1) ∧ Kd.C kI w' Ac l.length (l.map fun _ => H.ch) ∧ Below w.heap.size w w' := by
  have hu3 := Try.underlying3
  have hu23 := Try.underlying23
  have hu25 := Try.underlying25
  have hu26 := Try.underlying26
  have hu36 := Try.underlying36
  have hu47 := Try.underlying47
  have hu49 := Try.underlying49
  obtain ⟨z3, o3⟩ := info_some info3s (by decide)
  obtain ⟨z23, o23⟩ := info_some info23s (by decide)
  obtain ⟨z36, o36⟩ := info_some info36s (by decide)
  obtain ⟨z47, o47⟩ := info_some info47s (by decide)
  refine E.enter (N := 64) Try.func50 rfl Try.ntmps50 (args := [hv H, .slice A1 l.length c1, .bool true]) (by simp) ?_
  have L := Below.refl w.heap.size w
  refine E.CG.seq ?_
  refine E.CG.list ?_
  refine E.GL.st rfl rfl rfl (E.ST.box rfl rfl fun g3 w3 e3 b3 l3 => ?_)
  have h3_L : w.heap.size ≤ g3 := by rw [e3]; exact L.size
  replace L := below_step L l3
  refine E.GL.st rfl rfl rfl (E.ST.alloc rfl info49z fun g6 w6 e6 b6 l6 => ?_)
  have h6_L : w.heap.size ≤ g6 := by rw [e6]; exact L.size
  have n6_b3 : g3 ≠ g6 := by have := blk_lt b3; omega
  replace b3 := blk_below b3 l6
  replace L := below_step L l6
  refine E.GL.done ?_
  refine E.QG.code ?_
  refine E.CG.seq ?_
  refine E.CG.list ?_
  refine E.GL.run rfl rfl rfl (E.Runs.fieldAddr rfl rfl hu25 rfl (by assumption) rfl) ?_
  refine E.GL.run rfl rfl rfl (E.Runs.fieldAddr rfl rfl hu23 rfl (by assumption) rfl) ?_
  refine E.GL.run rfl rfl rfl (E.Runs.load rfl rfl hu3 (by first | assumption | exact E.blkc (by assumption) rfl | exact pw_cell_below L (by assumption))) ?_
  refine E.GL.run rfl rfl rfl (E.Runs.build rfl (E.epc rfl E.epn) (build49 _)) ?_
  refine E.GL.st rfl rfl rfl (E.ST.alloc rfl info49z fun g7 w7 e7 b7 l7 => ?_)
  have h7_L : w.heap.size ≤ g7 := by rw [e7]; exact L.size
  have n7_b3 : g3 ≠ g7 := by have := blk_lt b3; omega
  have n7_b6 : g6 ≠ g7 := by have := blk_lt b6; omega
  replace b3 := blk_below b3 l7
  replace b6 := blk_below b6 l7
  replace L := below_step L l7
  refine E.GL.store_whole rfl rfl rfl rfl rfl b7 rfl info49s (case_one _ _ _ _ _ _ _) fun wS1_5 c7 lS1_5 => ?_
  replace b3 := blk_grown b3 lS1_5 (E.nes (by first | assumption | exact Ne.symm (by assumption)))
  replace b6 := blk_grown b6 lS1_5 (E.nes (by first | assumption | exact Ne.symm (by assumption)))
  replace L := E.below_own L h7_L lS1_5
  replace b7 := c7
  clear c7
  refine E.GL.done ?_
  refine E.QG.code ?_
  refine E.CG.seq ?_
  refine E.CG.seq ?_
  refine E.CG.list ?_
  refine E.GL.run rfl rfl rfl (E.Runs.move rfl rfl) ?_
  refine E.GL.done ?_
  refine E.QG.code ?_
  refine E.CG.cond_t rfl ?_
  refine E.CG.list ?_
  refine E.GL.run rfl rfl rfl (E.Runs.fieldAddr rfl rfl hu25 rfl (by assumption) rfl) ?_
  refine E.GL.run rfl rfl rfl (E.Runs.fieldAddr rfl rfl hu23 rfl (by assumption) rfl) ?_
  refine E.GL.run rfl rfl rfl (E.Runs.load rfl rfl hu3 (by first | assumption | exact E.blkc (by assumption) rfl | exact pw_cell_below L (by assumption))) ?_
  refine E.GL.run rfl rfl rfl (E.Runs.fieldAddr rfl rfl hu49 rfl (by assumption) rfl) ?_
  refine E.GL.sn rfl rfl (E.ST.store rfl (by assumption) (by assumption) rfl rfl b7 rfl (show _ = #[.slice none 0 0, .slice none 0 0, .int .i64 H.dl] from rfl) fun wS3_4 c7 lS3_4 => ?_)
  replace b3 := blk_grown b3 lS3_4 (E.nes (by first | assumption | exact Ne.symm (by assumption)))
  replace b6 := blk_grown b6 lS3_4 (E.nes (by first | assumption | exact Ne.symm (by assumption)))
  replace L := E.below_own L h7_L lS3_4
  replace b7 := c7
  clear c7
  refine E.GL.done ?_
  refine E.QG.code ?_
  refine E.CG.seq ?_
  refine E.CG.seq ?_
  refine E.CG.list ?_
  refine E.GL.run rfl rfl rfl (E.Runs.assign rfl rfl) ?_
  refine E.GL.done ?_
  refine E.QG.code ?_
  refine E.CG.block ?_
  have s5_b3 := b3
  have s5_b6 := b6
  have s5_b7 := b7
  have s5_L := L
  refine E.CG.loop (fun (i : Nat) => [(1, .slice A1 l.length c1), (2, .bool true), (3, .pointer (some ⟨g3, 0, none⟩)), (6, .pointer (some ⟨g6, 0, none⟩)), (7, .pointer (some ⟨g7, 0, none⟩)), (8, .int .i64 i)]) (fun i w' => i ≤ l.length ∧ ∃ v u, w'.heap[g7]? = some (.cells #[v, u, .int .i64 H.dl] 49 (0, 0)) ∧ kI.R 3 w' w.heap.size (fun _ => True) v ((l.map fun s => s.f2.f1).take i) ∧ kI.R 3 w' w.heap.size (fun _ => True) u ((l.map fun _ => H.ch).take i) ∧ Ap v u ∧ w'.heap[g3]? = some (.cells #[.int .i64 H.teams, .int .i64 H.walk, .int .i64 H.early, .int .i64 H.foyer, .int .i64 H.dl, .int .i64 H.dh, .int .i64 H.cl, .int .i64 H.ch] 25 (0, 0)) ∧ w'.heap[g6]? = some (.cells #[.slice none 0 0, .slice none 0 0, .int .i64 0] 49 (0, 0)) ∧ Below w.heap.size w w') (fun i => l.length - i) 0 (E.subc rfl (E.subc rfl (E.subc rfl (E.subc rfl (E.subc rfl (E.subc rfl (E.subn))))))) ⟨Nat.zero_le _, _, _, b7, Kd.R_nil _ _ _ _ _, Kd.R_nil _ _ _ _ _, Ap.nil _, b3, b6, L⟩ ?_
  rintro i w5 ⟨hi, v, u, b7, R1, R2, ap, b3, b6, L⟩
  refine E.CG.seq ?_
  refine E.CG.seq ?_
  refine E.CG.list ?_
  refine E.GL.run rfl rfl rfl (E.Runs.move rfl rfl) ?_
  refine E.GL.run rfl rfl rfl (E.Runs.move rfl rfl) ?_
  refine E.GL.run rfl rfl rfl (E.Runs.len rfl rfl hu26) ?_
  refine E.GL.cmp rfl rfl rfl (fun _ h => (E.Runs.lss rfl rfl rfl h)) (fun h21 => ?_) (fun h21 => ?_)
  · have hlt : i < l.length := by omega
    obtain ⟨s, hs⟩ : ∃ s, l[i]? = some s := ⟨_, List.getElem?_eq_getElem hlt⟩
    obtain ⟨ad, eA, S⟩ := slot_at hr hs
    have hadw : (E.onA (E.onA (ad.add (i * 6)) 2) 1).block < w.heap.size := World.block_lt_of_cell? w _ S.c3
    have hts : (l.map fun s => s.f2.f1).take (i + 1) = (l.map fun s => s.f2.f1).take i ++ [s.f2.f1] := by rw [List.take_add_one, List.getElem?_map, hs]; rfl
    have htc : (l.map fun _ => H.ch).take (i + 1) = (l.map fun _ => H.ch).take i ++ [H.ch] := by rw [List.take_add_one, List.getElem?_map, hs]; rfl
    refine E.GL.done ?_
    refine E.QG.code ?_
    refine E.CG.cond_t rfl ?_
    refine E.CG.skip ?_
    refine E.QG.code ?_
    refine E.CG.seq ?_
    refine E.CG.block ?_
    refine E.CG.seq ?_
    refine E.CG.list ?_
    refine E.GL.run rfl rfl rfl (E.Runs.move rfl rfl) ?_
    refine E.GL.done ?_
    refine E.QG.code ?_
    refine E.CG.cond_t rfl ?_
    refine E.CG.cut2 (fun (v u : Value) => [(1, .slice A1 l.length c1), (2, .bool true), (3, .pointer (some ⟨g3, 0, none⟩)), (6, .pointer (some ⟨g6, 0, none⟩)), (7, .pointer (some ⟨g7, 0, none⟩)), (8, .int .i64 i)]) (fun v u w' => w'.heap[g7]? = some (.cells #[v, u, .int .i64 H.dl] 49 (0, 0)) ∧ kI.R 3 w' w.heap.size (fun _ => True) v ((l.map fun s => s.f2.f1).take (i + 1)) ∧ kI.R 3 w' w.heap.size (fun _ => True) u ((l.map fun _ => H.ch).take (i + 1)) ∧ Ap v u ∧ w'.heap[g3]? = some (.cells #[.int .i64 H.teams, .int .i64 H.walk, .int .i64 H.early, .int .i64 H.foyer, .int .i64 H.dl, .int .i64 H.dh, .int .i64 H.cl, .int .i64 H.ch] 25 (0, 0)) ∧ w'.heap[g6]? = some (.cells #[.slice none 0 0, .slice none 0 0, .int .i64 0] 49 (0, 0)) ∧ Below w.heap.size w w') ?_ ?_
    · refine E.CG.heldJ 18 (fun v W => E.Keeps (fun k => k < w.heap.size ∨ k = g3 ∨ k = g7) v W) (fun v W => E.Keeps (fun k => k = g3) v W) (by kernel_rfl) (by kernel_rfl) (fun v => E.Keeps.refl v) fun v8 lD => ?_
      replace b7 := blk_below b7 lD
      replace b3 := blk_below b3 lD
      replace b6 := blk_below b6 lD
      replace R1 := Kd.R_below R1 lD
      replace R2 := Kd.R_below R2 lD
      replace L := below_step L lD
      have K := @E.Keeps.refl (fun k => k < w.heap.size ∨ k = g3 ∨ k = g7) v8
      have c7 := b7
      have c3 := b3
      have L8 := L
      refine E.GJ.take1 (i := 0) rfl (by kernel_rfl) (by kernel_rfl) (by kernel_rfl) (by kernel_rfl) rfl (by kernel_rfl) (by kernel_rfl) E.calm_cut rfl rfl rfl (fun w' hS => (E.Runs.fieldAddr rfl rfl hu49 rfl (by assumption) rfl)) ?_
      refine E.GJ.take1 (i := 1) rfl (by kernel_rfl) (by kernel_rfl) (by kernel_rfl) (by kernel_rfl) rfl (by kernel_rfl) (by kernel_rfl) E.calm_cut rfl rfl rfl (fun w' hS => (E.Runs.load1 rfl rfl hu47 rfl (hS _ _ (.inr (.inr rfl)) (E.blkc c7 rfl)))) ?_
      refine E.GJ.take1 (i := 2) rfl (by kernel_rfl) (by kernel_rfl) (by kernel_rfl) (by kernel_rfl) rfl (by kernel_rfl) (by kernel_rfl) E.calm_cut rfl rfl rfl (fun w' hS => (E.Runs.move rfl rfl)) ?_
      refine E.GJ.take1 (i := 3) rfl (by kernel_rfl) (by kernel_rfl) (by kernel_rfl) (by kernel_rfl) rfl (by kernel_rfl) (by kernel_rfl) E.calm_cut rfl rfl rfl (fun w' hS => (E.Runs.move rfl rfl)) ?_
      refine E.GJ.take1 (i := 4) rfl (by kernel_rfl) (by kernel_rfl) (by kernel_rfl) (by kernel_rfl) rfl (by kernel_rfl) (by kernel_rfl) E.calm_cut rfl rfl rfl (fun w' hS => (E.Runs.indexAddrA rfl rfl rfl hu26 (by assumption) (by assumption) (by assumption) (by assumption) rfl)) ?_
      refine E.GJ.take1 (i := 5) rfl (by kernel_rfl) (by kernel_rfl) (by kernel_rfl) (by kernel_rfl) rfl (by kernel_rfl) (by kernel_rfl) E.calm_cut rfl rfl rfl (fun w' hS => (E.Runs.fieldAddr rfl rfl hu36 rfl (by assumption) rfl)) ?_
      refine E.GJ.take1 (i := 6) rfl (by kernel_rfl) (by kernel_rfl) (by kernel_rfl) (by kernel_rfl) rfl (by kernel_rfl) (by kernel_rfl) E.calm_cut rfl rfl rfl (fun w' hS => (E.Runs.fieldAddr rfl rfl hu23 rfl (by assumption) rfl)) ?_
      refine E.GJ.take1 (i := 7) rfl (by kernel_rfl) (by kernel_rfl) (by kernel_rfl) (by kernel_rfl) rfl (by kernel_rfl) (by kernel_rfl) E.calm_cut rfl rfl rfl (fun w' hS => (E.Runs.load rfl rfl hu3 (hS _ _ (.inl hadw) (pw_cell_below L8 S.c3)))) ?_
      refine E.GJ.take1 (i := 10) rfl (by kernel_rfl) (by kernel_rfl) (by kernel_rfl) (by kernel_rfl) rfl (by kernel_rfl) (by kernel_rfl) E.calm_cut rfl rfl rfl (fun w' hS => (E.Runs.fieldAddr rfl rfl hu49 rfl (by assumption) rfl)) ?_
      refine E.GJ.take1 (i := 11) rfl (by kernel_rfl) (by kernel_rfl) (by kernel_rfl) (by kernel_rfl) rfl (by kernel_rfl) (by kernel_rfl) E.calm_cut rfl rfl rfl (fun w' hS => (E.Runs.load1 rfl rfl hu47 rfl (hS _ _ (.inr (.inr rfl)) (E.blkc c7 rfl)))) ?_
      refine E.GJ.take2 (i := 12) rfl (by kernel_rfl) (by kernel_rfl) (by kernel_rfl) (by kernel_rfl) E.calm_cut rfl rfl rfl (fun w' hS => (E.Runs.fieldAddr rfl rfl hu25 rfl (by assumption) rfl)) ?_
      refine E.GJ.take2 (i := 13) rfl (by kernel_rfl) (by kernel_rfl) (by kernel_rfl) (by kernel_rfl) E.calm_cut rfl rfl rfl (fun w' hS => (E.Runs.fieldAddr rfl rfl hu23 rfl (by assumption) rfl)) ?_
      refine E.GJ.take2 (i := 14) rfl (by kernel_rfl) (by kernel_rfl) (by kernel_rfl) (by kernel_rfl) E.calm_cut rfl rfl rfl (fun w' hS => (E.Runs.load rfl rfl hu3 (hS.elim (fun hh => hh _ _ (.inr (.inl rfl)) (E.blkc c3 rfl)) (fun hh => hh _ _ rfl (E.blkc c3 rfl))))) ?_
      refine E.GJ.two (i := 8) (j := 15) (by kernel_rfl) (E.OJ.st rfl rfl rfl rfl (E.ST.litB rfl (E.epc rfl E.epn) (lit47 _) fun g33 w33 e33 b33 l33 => ⟨(E.SJ.before (by kernel_rfl)).mpr (K.below l33), ?_⟩)) (E.OJ.st rfl rfl rfl rfl (E.ST.litB rfl (E.epc rfl E.epn) (lit47 _) fun g40 w40 e40 b40 l40 => ⟨(E.SJ.before (by kernel_rfl)).mpr (K.below l40), ?_⟩))
      · have n33_R1 : ∀ k, k = g33 → some k ≠ (v).ownBlock := fun k hk h => by have := Kd.R_lt R1 _ h.symm; omega
        have n33_R2 : ∀ k, k = g33 → some k ≠ (u).ownBlock := fun k hk h => by have := Kd.R_lt R2 _ h.symm; omega
        replace b7 := blk_below b7 l33
        replace b3 := blk_below b3 l33
        replace b6 := blk_below b6 l33
        replace R1 := Kd.R_below R1 l33
        replace R2 := Kd.R_below R2 l33
        replace L := below_step L l33
        replace K := K.below l33
        have kk34 := fun (w1 : World) (gr : World.grownBy _ w1 _) => K.grown gr (row_free R1 b3 b7)
        refine E.GJ.two (i := 9) (j := 15) (by kernel_rfl) (E.OJ.st rfl rfl rfl rfl (E.ST.appendAt kI w.heap.size (w0 := w) (s := .tmp 26) (x := .tmp 33) rfl hu47 info3 rfl (by decide) (by decide) rfl rfl R1 (C_int1 b33) int_made L L.size (by rw [List.length_take]; omega) fun u34 w34 r34 k34 gr34 hat34 => ⟨(E.SJ.before (by kernel_rfl)).mpr (K.grown gr34 (row_free R1 b3 b7)), ?_⟩)) (E.OJ.st rfl rfl rfl rfl (E.ST.litB rfl (E.epc rfl E.epn) (lit47 _) fun g40 w40 e40 b40 l40 => ⟨(E.SJ.before (by kernel_rfl)).mpr (K.below l40), ?_⟩))
        · replace kk34 := kk34 _ gr34
          have ap' := ap.after hat34 (fun k hk => Kd.R_lt R2 k hk)
          replace R2 := R_beside R2 gr34 ap
          replace b7 := blk_grown b7 gr34 (Kd.R_ne R1 b7 (by decide))
          replace b3 := blk_grown b3 gr34 (Kd.R_ne R1 b3 (by decide))
          replace b6 := blk_grown b6 gr34 (Kd.R_ne R1 b6 (by decide))
          replace K := kk34
          replace R1 := r34
          replace L := k34
          replace ap := ap'
          clear ap' r34 k34
          refine E.GJ.take2 (i := 17) rfl (by kernel_rfl) (by kernel_rfl) (by kernel_rfl) (by kernel_rfl) E.calm_cut rfl rfl rfl (fun w' hS => (E.Runs.fieldAddr rfl rfl hu49 rfl (by assumption) rfl)) ?_
          refine E.GJ.one (i := 15) (by kernel_rfl) (E.OJ.st rfl rfl rfl rfl (E.ST.litB rfl (E.epc rfl E.epn) (lit47 _) fun g40 w40 e40 b40 l40 => ⟨(E.SJ.before (by kernel_rfl)).mpr (K.below l40), ?_⟩))
          have n40_R1 : ∀ k, k = g40 → some k ≠ (u34).ownBlock := fun k hk h => by have := Kd.R_lt R1 _ h.symm; omega
          have n40_R2 : ∀ k, k = g40 → some k ≠ (u).ownBlock := fun k hk h => by have := Kd.R_lt R2 _ h.symm; omega
          replace b7 := blk_below b7 l40
          replace b3 := blk_below b3 l40
          replace b6 := blk_below b6 l40
          replace R1 := Kd.R_below R1 l40
          replace R2 := Kd.R_below R2 l40
          replace L := below_step L l40
          replace K := K.below l40
          have kk41 := fun (w1 : World) (gr : World.grownBy _ w1 _) => K.grown gr (row_free R2 b3 b7)
          refine E.GJ.one (i := 16) (by kernel_rfl) (E.OJ.st rfl rfl rfl rfl (E.ST.appendAt kI w.heap.size (w0 := w) (s := .tmp 36) (x := .tmp 40) rfl hu47 info3 rfl (by decide) (by decide) rfl rfl R2 (C_int1 b40) int_made L L.size (by rw [List.length_take]; omega) fun u41 w41 r41 k41 gr41 hat41 => ⟨(E.SJ.before (by kernel_rfl)).mpr (K.grown gr41 (row_free R2 b3 b7)), ?_⟩))
          replace kk41 := kk41 _ gr41
          have ap' := ap.symm.after hat41 (fun k hk => Kd.R_lt R1 k hk)
          replace R1 := R_beside R1 gr41 ap.symm
          replace b7 := blk_grown b7 gr41 (Kd.R_ne R2 b7 (by decide))
          replace b3 := blk_grown b3 gr41 (Kd.R_ne R2 b3 (by decide))
          replace b6 := blk_grown b6 gr41 (Kd.R_ne R2 b6 (by decide))
          replace K := kk41
          replace R2 := r41
          replace L := k41
          replace ap := ap'.symm
          clear ap' r41 k41
          obtain ⟨A34, c34, h34⟩ := Kd.R_slice R1
          obtain ⟨A41, c41, h41⟩ := Kd.R_slice R2
          subst h34 h41
          have K0 : E.Keeps (fun k => k = g3) v8 _ := Keeps_w K (fun k hk => .inr (.inl hk))
          refine E.GJ.one (i := 18) (by kernel_rfl) (E.OJ.sn rfl rfl rfl (E.ST.storeSl rfl z47 o47 rfl rfl b7 rfl rfl fun w18 d7 l18 => ⟨(E.SJ.behind (by kernel_rfl)).mpr (K0.grown l18 (fun k hk e => by cases hk; exact n7_b3 e.symm)), ?_⟩))
          replace K0 := K0.grown l18 (fun k hk e => by cases hk; exact n7_b3 e.symm)
          replace b3 := blk_grown b3 l18 (E.nes n7_b3)
          replace b6 := blk_grown b6 l18 (E.nes n7_b6)
          replace R1 := Kd.R_grown1 R1 rfl l18 (Kd.R_ne R1 b7 (by decide))
          replace R2 := Kd.R_grown1 R2 rfl l18 (Kd.R_ne R2 b7 (by decide))
          replace L := E.below_own L h7_L l18
          replace b7 := d7
          clear d7
          refine E.GJ.take2 (i := 19) rfl (by kernel_rfl) (by kernel_rfl) (by kernel_rfl) (by kernel_rfl) E.calm_cut rfl rfl rfl (fun w' hS => (E.Runs.fieldAddr rfl rfl hu49 rfl (by assumption) rfl)) ?_
          refine E.GJ.one (i := 20) (by kernel_rfl) (E.OJ.sn rfl rfl rfl (E.ST.storeSl rfl z47 o47 rfl rfl b7 rfl rfl fun w20 d7 l20 => ⟨(E.SJ.behind (by kernel_rfl)).mpr (K0.grown l20 (fun k hk e => by cases hk; exact n7_b3 e.symm)), ?_⟩))
          replace K0 := K0.grown l20 (fun k hk e => by cases hk; exact n7_b3 e.symm)
          replace b3 := blk_grown b3 l20 (E.nes n7_b3)
          replace b6 := blk_grown b6 l20 (E.nes n7_b6)
          replace R1 := Kd.R_grown1 R1 rfl l20 (Kd.R_ne R1 b7 (by decide))
          replace R2 := Kd.R_grown1 R2 rfl l20 (Kd.R_ne R2 b7 (by decide))
          replace L := E.below_own L h7_L l20
          replace b7 := d7
          clear d7
          refine E.GJ.done (by kernel_rfl) ?_
          exact E.QG.meet2 _ _ (E.subc rfl (E.subc rfl (E.subc rfl (E.subc rfl (E.subc rfl (E.subc rfl (E.subn))))))) ⟨b7, by rw [hts]; exact R1, by rw [htc]; exact R2, ap, b3, b6, L⟩
        · have n40_R1 : ∀ k, k = g40 → some k ≠ (v).ownBlock := fun k hk h => by have := Kd.R_lt R1 _ h.symm; omega
          have n40_R2 : ∀ k, k = g40 → some k ≠ (u).ownBlock := fun k hk h => by have := Kd.R_lt R2 _ h.symm; omega
          replace b7 := blk_below b7 l40
          replace b3 := blk_below b3 l40
          replace b6 := blk_below b6 l40
          replace b33 := blk_below b33 l40
          replace R1 := Kd.R_below R1 l40
          replace R2 := Kd.R_below R2 l40
          replace L := below_step L l40
          replace K := K.below l40
          have kk34 := fun (w1 : World) (gr : World.grownBy _ w1 _) => K.grown gr (row_free R1 b3 b7)
          refine E.GJ.one (i := 9) (by kernel_rfl) (E.OJ.st rfl rfl rfl rfl (E.ST.appendAt kI w.heap.size (w0 := w) (s := .tmp 26) (x := .tmp 33) rfl hu47 info3 rfl (by decide) (by decide) rfl rfl R1 (C_int1 b33) int_made L L.size (by rw [List.length_take]; omega) fun u34 w34 r34 k34 gr34 hat34 => ⟨(E.SJ.before (by kernel_rfl)).mpr (K.grown gr34 (row_free R1 b3 b7)), ?_⟩))
          replace kk34 := kk34 _ gr34
          have ap' := ap.after hat34 (fun k hk => Kd.R_lt R2 k hk)
          replace R2 := R_beside R2 gr34 ap
          replace b7 := blk_grown b7 gr34 (Kd.R_ne R1 b7 (by decide))
          replace b3 := blk_grown b3 gr34 (Kd.R_ne R1 b3 (by decide))
          replace b6 := blk_grown b6 gr34 (Kd.R_ne R1 b6 (by decide))
          replace b40 := blk_grown b40 gr34 (n40_R1 _ rfl)
          replace K := kk34
          replace R1 := r34
          replace L := k34
          replace ap := ap'
          clear ap' r34 k34
          refine E.GJ.take2 (i := 17) rfl (by kernel_rfl) (by kernel_rfl) (by kernel_rfl) (by kernel_rfl) E.calm_cut rfl rfl rfl (fun w' hS => (E.Runs.fieldAddr rfl rfl hu49 rfl (by assumption) rfl)) ?_
          have kk41 := fun (w1 : World) (gr : World.grownBy _ w1 _) => K.grown gr (row_free R2 b3 b7)
          refine E.GJ.one (i := 16) (by kernel_rfl) (E.OJ.st rfl rfl rfl rfl (E.ST.appendAt kI w.heap.size (w0 := w) (s := .tmp 36) (x := .tmp 40) rfl hu47 info3 rfl (by decide) (by decide) rfl rfl R2 (C_int1 b40) int_made L L.size (by rw [List.length_take]; omega) fun u41 w41 r41 k41 gr41 hat41 => ⟨(E.SJ.before (by kernel_rfl)).mpr (K.grown gr41 (row_free R2 b3 b7)), ?_⟩))
          replace kk41 := kk41 _ gr41
          have ap' := ap.symm.after hat41 (fun k hk => Kd.R_lt R1 k hk)
          replace R1 := R_beside R1 gr41 ap.symm
          replace b7 := blk_grown b7 gr41 (Kd.R_ne R2 b7 (by decide))
          replace b3 := blk_grown b3 gr41 (Kd.R_ne R2 b3 (by decide))
          replace b6 := blk_grown b6 gr41 (Kd.R_ne R2 b6 (by decide))
          replace K := kk41
          replace R2 := r41
          replace L := k41
          replace ap := ap'.symm
          clear ap' r41 k41
          obtain ⟨A34, c34, h34⟩ := Kd.R_slice R1
          obtain ⟨A41, c41, h41⟩ := Kd.R_slice R2
          subst h34 h41
          have K0 : E.Keeps (fun k => k = g3) v8 _ := Keeps_w K (fun k hk => .inr (.inl hk))
          refine E.GJ.one (i := 18) (by kernel_rfl) (E.OJ.sn rfl rfl rfl (E.ST.storeSl rfl z47 o47 rfl rfl b7 rfl rfl fun w18 d7 l18 => ⟨(E.SJ.behind (by kernel_rfl)).mpr (K0.grown l18 (fun k hk e => by cases hk; exact n7_b3 e.symm)), ?_⟩))
          replace K0 := K0.grown l18 (fun k hk e => by cases hk; exact n7_b3 e.symm)
          replace b3 := blk_grown b3 l18 (E.nes n7_b3)
          replace b6 := blk_grown b6 l18 (E.nes n7_b6)
          replace R1 := Kd.R_grown1 R1 rfl l18 (Kd.R_ne R1 b7 (by decide))
          replace R2 := Kd.R_grown1 R2 rfl l18 (Kd.R_ne R2 b7 (by decide))
          replace L := E.below_own L h7_L l18
          replace b7 := d7
          clear d7
          refine E.GJ.take2 (i := 19) rfl (by kernel_rfl) (by kernel_rfl) (by kernel_rfl) (by kernel_rfl) E.calm_cut rfl rfl rfl (fun w' hS => (E.Runs.fieldAddr rfl rfl hu49 rfl (by assumption) rfl)) ?_
          refine E.GJ.one (i := 20) (by kernel_rfl) (E.OJ.sn rfl rfl rfl (E.ST.storeSl rfl z47 o47 rfl rfl b7 rfl rfl fun w20 d7 l20 => ⟨(E.SJ.behind (by kernel_rfl)).mpr (K0.grown l20 (fun k hk e => by cases hk; exact n7_b3 e.symm)), ?_⟩))
          replace K0 := K0.grown l20 (fun k hk e => by cases hk; exact n7_b3 e.symm)
          replace b3 := blk_grown b3 l20 (E.nes n7_b3)
          replace b6 := blk_grown b6 l20 (E.nes n7_b6)
          replace R1 := Kd.R_grown1 R1 rfl l20 (Kd.R_ne R1 b7 (by decide))
          replace R2 := Kd.R_grown1 R2 rfl l20 (Kd.R_ne R2 b7 (by decide))
          replace L := E.below_own L h7_L l20
          replace b7 := d7
          clear d7
          refine E.GJ.done (by kernel_rfl) ?_
          exact E.QG.meet2 _ _ (E.subc rfl (E.subc rfl (E.subc rfl (E.subc rfl (E.subc rfl (E.subc rfl (E.subn))))))) ⟨b7, by rw [hts]; exact R1, by rw [htc]; exact R2, ap, b3, b6, L⟩
      · have n40_R1 : ∀ k, k = g40 → some k ≠ (v).ownBlock := fun k hk h => by have := Kd.R_lt R1 _ h.symm; omega
        have n40_R2 : ∀ k, k = g40 → some k ≠ (u).ownBlock := fun k hk h => by have := Kd.R_lt R2 _ h.symm; omega
        replace b7 := blk_below b7 l40
        replace b3 := blk_below b3 l40
        replace b6 := blk_below b6 l40
        replace R1 := Kd.R_below R1 l40
        replace R2 := Kd.R_below R2 l40
        replace L := below_step L l40
        replace K := K.below l40
        refine E.GJ.one (i := 8) (by kernel_rfl) (E.OJ.st rfl rfl rfl rfl (E.ST.litB rfl (E.epc rfl E.epn) (lit47 _) fun g33 w33 e33 b33 l33 => ⟨(E.SJ.before (by kernel_rfl)).mpr (K.below l33), ?_⟩))
        have n33_R1 : ∀ k, k = g33 → some k ≠ (v).ownBlock := fun k hk h => by have := Kd.R_lt R1 _ h.symm; omega
        have n33_R2 : ∀ k, k = g33 → some k ≠ (u).ownBlock := fun k hk h => by have := Kd.R_lt R2 _ h.symm; omega
        replace b7 := blk_below b7 l33
        replace b3 := blk_below b3 l33
        replace b6 := blk_below b6 l33
        replace b40 := blk_below b40 l33
        replace R1 := Kd.R_below R1 l33
        replace R2 := Kd.R_below R2 l33
        replace L := below_step L l33
        replace K := K.below l33
        have kk34 := fun (w1 : World) (gr : World.grownBy _ w1 _) => K.grown gr (row_free R1 b3 b7)
        refine E.GJ.one (i := 9) (by kernel_rfl) (E.OJ.st rfl rfl rfl rfl (E.ST.appendAt kI w.heap.size (w0 := w) (s := .tmp 26) (x := .tmp 33) rfl hu47 info3 rfl (by decide) (by decide) rfl rfl R1 (C_int1 b33) int_made L L.size (by rw [List.length_take]; omega) fun u34 w34 r34 k34 gr34 hat34 => ⟨(E.SJ.before (by kernel_rfl)).mpr (K.grown gr34 (row_free R1 b3 b7)), ?_⟩))
        replace kk34 := kk34 _ gr34
        have ap' := ap.after hat34 (fun k hk => Kd.R_lt R2 k hk)
        replace R2 := R_beside R2 gr34 ap
        replace b7 := blk_grown b7 gr34 (Kd.R_ne R1 b7 (by decide))
        replace b3 := blk_grown b3 gr34 (Kd.R_ne R1 b3 (by decide))
        replace b6 := blk_grown b6 gr34 (Kd.R_ne R1 b6 (by decide))
        replace b40 := blk_grown b40 gr34 (n40_R1 _ rfl)
        replace K := kk34
        replace R1 := r34
        replace L := k34
        replace ap := ap'
        clear ap' r34 k34
        refine E.GJ.take2 (i := 17) rfl (by kernel_rfl) (by kernel_rfl) (by kernel_rfl) (by kernel_rfl) E.calm_cut rfl rfl rfl (fun w' hS => (E.Runs.fieldAddr rfl rfl hu49 rfl (by assumption) rfl)) ?_
        have kk41 := fun (w1 : World) (gr : World.grownBy _ w1 _) => K.grown gr (row_free R2 b3 b7)
        refine E.GJ.one (i := 16) (by kernel_rfl) (E.OJ.st rfl rfl rfl rfl (E.ST.appendAt kI w.heap.size (w0 := w) (s := .tmp 36) (x := .tmp 40) rfl hu47 info3 rfl (by decide) (by decide) rfl rfl R2 (C_int1 b40) int_made L L.size (by rw [List.length_take]; omega) fun u41 w41 r41 k41 gr41 hat41 => ⟨(E.SJ.before (by kernel_rfl)).mpr (K.grown gr41 (row_free R2 b3 b7)), ?_⟩))
        replace kk41 := kk41 _ gr41
        have ap' := ap.symm.after hat41 (fun k hk => Kd.R_lt R1 k hk)
        replace R1 := R_beside R1 gr41 ap.symm
        replace b7 := blk_grown b7 gr41 (Kd.R_ne R2 b7 (by decide))
        replace b3 := blk_grown b3 gr41 (Kd.R_ne R2 b3 (by decide))
        replace b6 := blk_grown b6 gr41 (Kd.R_ne R2 b6 (by decide))
        replace K := kk41
        replace R2 := r41
        replace L := k41
        replace ap := ap'.symm
        clear ap' r41 k41
        obtain ⟨A34, c34, h34⟩ := Kd.R_slice R1
        obtain ⟨A41, c41, h41⟩ := Kd.R_slice R2
        subst h34 h41
        have K0 : E.Keeps (fun k => k = g3) v8 _ := Keeps_w K (fun k hk => .inr (.inl hk))
        refine E.GJ.one (i := 18) (by kernel_rfl) (E.OJ.sn rfl rfl rfl (E.ST.storeSl rfl z47 o47 rfl rfl b7 rfl rfl fun w18 d7 l18 => ⟨(E.SJ.behind (by kernel_rfl)).mpr (K0.grown l18 (fun k hk e => by cases hk; exact n7_b3 e.symm)), ?_⟩))
        replace K0 := K0.grown l18 (fun k hk e => by cases hk; exact n7_b3 e.symm)
        replace b3 := blk_grown b3 l18 (E.nes n7_b3)
        replace b6 := blk_grown b6 l18 (E.nes n7_b6)
        replace R1 := Kd.R_grown1 R1 rfl l18 (Kd.R_ne R1 b7 (by decide))
        replace R2 := Kd.R_grown1 R2 rfl l18 (Kd.R_ne R2 b7 (by decide))
        replace L := E.below_own L h7_L l18
        replace b7 := d7
        clear d7
        refine E.GJ.take2 (i := 19) rfl (by kernel_rfl) (by kernel_rfl) (by kernel_rfl) (by kernel_rfl) E.calm_cut rfl rfl rfl (fun w' hS => (E.Runs.fieldAddr rfl rfl hu49 rfl (by assumption) rfl)) ?_
        refine E.GJ.one (i := 20) (by kernel_rfl) (E.OJ.sn rfl rfl rfl (E.ST.storeSl rfl z47 o47 rfl rfl b7 rfl rfl fun w20 d7 l20 => ⟨(E.SJ.behind (by kernel_rfl)).mpr (K0.grown l20 (fun k hk e => by cases hk; exact n7_b3 e.symm)), ?_⟩))
        replace K0 := K0.grown l20 (fun k hk e => by cases hk; exact n7_b3 e.symm)
        replace b3 := blk_grown b3 l20 (E.nes n7_b3)
        replace b6 := blk_grown b6 l20 (E.nes n7_b6)
        replace R1 := Kd.R_grown1 R1 rfl l20 (Kd.R_ne R1 b7 (by decide))
        replace R2 := Kd.R_grown1 R2 rfl l20 (Kd.R_ne R2 b7 (by decide))
        replace L := E.below_own L h7_L l20
        replace b7 := d7
        clear d7
        refine E.GJ.done (by kernel_rfl) ?_
        exact E.QG.meet2 _ _ (E.subc rfl (E.subc rfl (E.subc rfl (E.subc rfl (E.subc rfl (E.subc rfl (E.subn))))))) ⟨b7, by rw [hts]; exact R1, by rw [htc]; exact R2, ap, b3, b6, L⟩
    clear b7 R1 R2 ap b3 b6 L
    intro v u w8 ⟨b7, R1, R2, ap, b3, b6, L⟩
    refine E.QG.block_normal ?_
    refine E.QG.code ?_
    refine E.CG.list ?_
    refine E.GL.run rfl rfl rfl (E.Runs.move rfl rfl) ?_
    refine E.GL.run rfl rfl rfl (E.Runs.add rfl rfl rfl (IntWalk.i64_in _ (by omega))) ?_
    refine E.GL.run rfl rfl rfl (E.Runs.assign rfl rfl) ?_
    refine E.GL.done ?_
    exact E.QG.round (i + 1) (E.subc rfl (E.subc rfl (E.subc rfl (E.subc rfl (E.subc rfl (E.subc rfl E.subn)))))) ⟨by omega, v, u, b7, R1, R2, ap, b3, b6, L⟩ (by omega)
  · obtain rfl : i = l.length := by omega
    rw [List.take_of_length_le (by simp)] at R1
    rw [List.take_of_length_le (by simp)] at R2
    obtain ⟨Ar, cr, hv1⟩ := Kd.R_slice R1
    obtain ⟨Ac, cc, hv2⟩ := Kd.R_slice R2
    subst hv1 hv2
    refine E.GL.done ?_
    refine E.QG.code ?_
    refine E.CG.cond_f rfl ?_
    refine E.CG.exit ?_
    refine E.QG.pass_exit ?_
    refine E.QG.pass_exit ?_
    refine E.QG.block_here ?_
    refine E.QG.code ?_
    refine E.CG.seq ?_
    refine E.CG.list ?_
    refine E.GL.run rfl rfl rfl (E.Runs.loads (cs := [.slice Ar (l.map fun s => s.f2.f1).length cr, .slice Ac (l.map fun _ => H.ch).length cc, .int .i64 H.dl]) rfl rfl hu49 rfl info49s (blk_cells b7)) ?_
    have b6o := b6
    refine E.GL.store_whole rfl rfl rfl rfl rfl b6 rfl info49s (case_one _ _ _ _ _ _ _) fun wS10_1 c6 lS10_1 => ?_
    replace b3 := blk_grown b3 lS10_1 (E.nes (by first | assumption | exact Ne.symm (by assumption)))
    replace b7 := blk_grown b7 lS10_1 (E.nes (by first | assumption | exact Ne.symm (by assumption)))
    replace L := E.below_own L h6_L lS10_1
    replace b6 := c6
    clear c6
    replace R1 := Kd.R_grown1 R1 rfl lS10_1 (Kd.R_ne R1 b6o (by decide))
    replace R2 := Kd.R_grown1 R2 rfl lS10_1 (Kd.R_ne R2 b6o (by decide))
    have C1 := (Kd.R_reads' R1).2.2
    have C2 := (Kd.R_reads' R2).2.2
    simp only [List.length_map] at C1 C2 b6
    refine E.GL.done ?_
    refine E.QG.code ?_
    refine E.CG.ret ?_
    exact E.QG.result_c rfl rfl b6 hu49 rfl info49s ⟨Ar, cr, Ac, cc, rfl, C1, C2, L⟩

set_option maxRecDepth 100000 in
set_option maxHeartbeats 8000000 in

theorem bound_early (H : Hs) (l : List S36) (A1 : Option Addr) (c1 : Nat) (w : World) (hn : l.length ≤ 1000) (hr : Kd.C k36 w A1 l.length l) (hc : l.length ≤ c1) :
    Calls Try.prog 50 #[hv H, .slice A1 l.length c1, .bool false] w fun e w' => ∃ Ar cr Ac cc, e = .returned (.agg #[.slice Ar l.length cr, .slice Ac l.length cc, .int .i64 H.dh]) ∧ Kd.C kI w' Ar l.length (l.map fun s => s.f2.f0) ∧ Kd.C kI w' Ac l.length (l.map fun _ => H.cl) ∧ Below w.heap.size w w' := by
  have hu3 := Try.underlying3
  have hu23 := Try.underlying23
  have hu25 := Try.underlying25
  have hu26 := Try.underlying26
  have hu36 := Try.underlying36
  have hu47 := Try.underlying47
  have hu49 := Try.underlying49
  obtain ⟨z3, o3⟩ := info_some info3s (by decide)
  obtain ⟨z23, o23⟩ := info_some info23s (by decide)
  obtain ⟨z36, o36⟩ := info_some info36s (by decide)
  obtain ⟨z47, o47⟩ := info_some info47s (by decide)
  refine E.enter (N := 64) Try.func50 rfl Try.ntmps50 (args := [hv H, .slice A1 l.length c1, .bool false]) (by simp) ?_
  have L := Below.refl w.heap.size w
  refine E.CG.seq ?_
  refine E.CG.list ?_
  refine E.GL.st rfl rfl rfl (E.ST.box rfl rfl fun g3 w3 e3 b3 l3 => ?_)
  have h3_L : w.heap.size ≤ g3 := by rw [e3]; exact L.size
  replace L := below_step L l3
  refine E.GL.st rfl rfl rfl (E.ST.alloc rfl info49z fun g6 w6 e6 b6 l6 => ?_)
  have h6_L : w.heap.size ≤ g6 := by rw [e6]; exact L.size
  have n6_b3 : g3 ≠ g6 := by have := blk_lt b3; omega
  replace b3 := blk_below b3 l6
  replace L := below_step L l6
  refine E.GL.done ?_
  refine E.QG.code ?_
  refine E.CG.seq ?_
  refine E.CG.list ?_
  refine E.GL.run rfl rfl rfl (E.Runs.fieldAddr rfl rfl hu25 rfl (by assumption) rfl) ?_
  refine E.GL.run rfl rfl rfl (E.Runs.fieldAddr rfl rfl hu23 rfl (by assumption) rfl) ?_
  refine E.GL.run rfl rfl rfl (E.Runs.load rfl rfl hu3 (by first | assumption | exact E.blkc (by assumption) rfl | exact pw_cell_below L (by assumption))) ?_
  refine E.GL.run rfl rfl rfl (E.Runs.build rfl (E.epc rfl E.epn) (build49 _)) ?_
  refine E.GL.st rfl rfl rfl (E.ST.alloc rfl info49z fun g7 w7 e7 b7 l7 => ?_)
  have h7_L : w.heap.size ≤ g7 := by rw [e7]; exact L.size
  have n7_b3 : g3 ≠ g7 := by have := blk_lt b3; omega
  have n7_b6 : g6 ≠ g7 := by have := blk_lt b6; omega
  replace b3 := blk_below b3 l7
  replace b6 := blk_below b6 l7
  replace L := below_step L l7
  refine E.GL.store_whole rfl rfl rfl rfl rfl b7 rfl info49s (case_one _ _ _ _ _ _ _) fun wS1_5 c7 lS1_5 => ?_
  replace b3 := blk_grown b3 lS1_5 (E.nes (by first | assumption | exact Ne.symm (by assumption)))
  replace b6 := blk_grown b6 lS1_5 (E.nes (by first | assumption | exact Ne.symm (by assumption)))
  replace L := E.below_own L h7_L lS1_5
  replace b7 := c7
  clear c7
  refine E.GL.done ?_
  refine E.QG.code ?_
  refine E.CG.seq ?_
  refine E.CG.seq ?_
  refine E.CG.list ?_
  refine E.GL.run rfl rfl rfl (E.Runs.move rfl rfl) ?_
  refine E.GL.done ?_
  refine E.QG.code ?_
  refine E.CG.cond_f rfl ?_
  refine E.CG.skip ?_
  refine E.QG.code ?_
  refine E.CG.seq ?_
  refine E.CG.seq ?_
  refine E.CG.list ?_
  refine E.GL.run rfl rfl rfl (E.Runs.assign rfl rfl) ?_
  refine E.GL.done ?_
  refine E.QG.code ?_
  refine E.CG.block ?_
  have s5_b3 := b3
  have s5_b6 := b6
  have s5_b7 := b7
  have s5_L := L
  refine E.CG.loop (fun (i : Nat) => [(1, .slice A1 l.length c1), (2, .bool false), (3, .pointer (some ⟨g3, 0, none⟩)), (6, .pointer (some ⟨g6, 0, none⟩)), (7, .pointer (some ⟨g7, 0, none⟩)), (8, .int .i64 i)]) (fun i w' => i ≤ l.length ∧ ∃ v u, w'.heap[g7]? = some (.cells #[v, u, .int .i64 H.dh] 49 (0, 0)) ∧ kI.R 3 w' w.heap.size (fun _ => True) v ((l.map fun s => s.f2.f0).take i) ∧ kI.R 3 w' w.heap.size (fun _ => True) u ((l.map fun _ => H.cl).take i) ∧ Ap v u ∧ w'.heap[g3]? = some (.cells #[.int .i64 H.teams, .int .i64 H.walk, .int .i64 H.early, .int .i64 H.foyer, .int .i64 H.dl, .int .i64 H.dh, .int .i64 H.cl, .int .i64 H.ch] 25 (0, 0)) ∧ w'.heap[g6]? = some (.cells #[.slice none 0 0, .slice none 0 0, .int .i64 0] 49 (0, 0)) ∧ Below w.heap.size w w') (fun i => l.length - i) 0 (E.subc rfl (E.subc rfl (E.subc rfl (E.subc rfl (E.subc rfl (E.subc rfl (E.subn))))))) ⟨Nat.zero_le _, _, _, b7, Kd.R_nil _ _ _ _ _, Kd.R_nil _ _ _ _ _, Ap.nil _, b3, b6, L⟩ ?_
  rintro i w5 ⟨hi, v, u, b7, R1, R2, ap, b3, b6, L⟩
  refine E.CG.seq ?_
  refine E.CG.seq ?_
  refine E.CG.list ?_
  refine E.GL.run rfl rfl rfl (E.Runs.move rfl rfl) ?_
  refine E.GL.run rfl rfl rfl (E.Runs.move rfl rfl) ?_
  refine E.GL.run rfl rfl rfl (E.Runs.len rfl rfl hu26) ?_
  refine E.GL.cmp rfl rfl rfl (fun _ h => (E.Runs.lss rfl rfl rfl h)) (fun h21 => ?_) (fun h21 => ?_)
  · have hlt : i < l.length := by omega
    obtain ⟨s, hs⟩ : ∃ s, l[i]? = some s := ⟨_, List.getElem?_eq_getElem hlt⟩
    obtain ⟨ad, eA, S⟩ := slot_at hr hs
    have hadw : (E.onA (E.onA (ad.add (i * 6)) 2) 0).block < w.heap.size := World.block_lt_of_cell? w _ S.c2
    have hts : (l.map fun s => s.f2.f0).take (i + 1) = (l.map fun s => s.f2.f0).take i ++ [s.f2.f0] := by rw [List.take_add_one, List.getElem?_map, hs]; rfl
    have htc : (l.map fun _ => H.cl).take (i + 1) = (l.map fun _ => H.cl).take i ++ [H.cl] := by rw [List.take_add_one, List.getElem?_map, hs]; rfl
    refine E.GL.done ?_
    refine E.QG.code ?_
    refine E.CG.cond_t rfl ?_
    refine E.CG.skip ?_
    refine E.QG.code ?_
    refine E.CG.seq ?_
    refine E.CG.block ?_
    refine E.CG.seq ?_
    refine E.CG.list ?_
    refine E.GL.run rfl rfl rfl (E.Runs.move rfl rfl) ?_
    refine E.GL.done ?_
    refine E.QG.code ?_
    refine E.CG.cond_f rfl ?_
    refine E.CG.cut2 (fun (v u : Value) => [(1, .slice A1 l.length c1), (2, .bool false), (3, .pointer (some ⟨g3, 0, none⟩)), (6, .pointer (some ⟨g6, 0, none⟩)), (7, .pointer (some ⟨g7, 0, none⟩)), (8, .int .i64 i)]) (fun v u w' => w'.heap[g7]? = some (.cells #[v, u, .int .i64 H.dh] 49 (0, 0)) ∧ kI.R 3 w' w.heap.size (fun _ => True) v ((l.map fun s => s.f2.f0).take (i + 1)) ∧ kI.R 3 w' w.heap.size (fun _ => True) u ((l.map fun _ => H.cl).take (i + 1)) ∧ Ap v u ∧ w'.heap[g3]? = some (.cells #[.int .i64 H.teams, .int .i64 H.walk, .int .i64 H.early, .int .i64 H.foyer, .int .i64 H.dl, .int .i64 H.dh, .int .i64 H.cl, .int .i64 H.ch] 25 (0, 0)) ∧ w'.heap[g6]? = some (.cells #[.slice none 0 0, .slice none 0 0, .int .i64 0] 49 (0, 0)) ∧ Below w.heap.size w w') ?_ ?_
    · refine E.CG.heldJ 18 (fun v W => E.Keeps (fun k => k < w.heap.size ∨ k = g3 ∨ k = g7) v W) (fun v W => E.Keeps (fun k => k = g3) v W) (by kernel_rfl) (by kernel_rfl) (fun v => E.Keeps.refl v) fun v8 lD => ?_
      replace b7 := blk_below b7 lD
      replace b3 := blk_below b3 lD
      replace b6 := blk_below b6 lD
      replace R1 := Kd.R_below R1 lD
      replace R2 := Kd.R_below R2 lD
      replace L := below_step L lD
      have K := @E.Keeps.refl (fun k => k < w.heap.size ∨ k = g3 ∨ k = g7) v8
      have c7 := b7
      have c3 := b3
      have L8 := L
      refine E.GJ.take1 (i := 0) rfl (by kernel_rfl) (by kernel_rfl) (by kernel_rfl) (by kernel_rfl) rfl (by kernel_rfl) (by kernel_rfl) E.calm_cut rfl rfl rfl (fun w' hS => (E.Runs.fieldAddr rfl rfl hu49 rfl (by assumption) rfl)) ?_
      refine E.GJ.take1 (i := 1) rfl (by kernel_rfl) (by kernel_rfl) (by kernel_rfl) (by kernel_rfl) rfl (by kernel_rfl) (by kernel_rfl) E.calm_cut rfl rfl rfl (fun w' hS => (E.Runs.load1 rfl rfl hu47 rfl (hS _ _ (.inr (.inr rfl)) (E.blkc c7 rfl)))) ?_
      refine E.GJ.take1 (i := 2) rfl (by kernel_rfl) (by kernel_rfl) (by kernel_rfl) (by kernel_rfl) rfl (by kernel_rfl) (by kernel_rfl) E.calm_cut rfl rfl rfl (fun w' hS => (E.Runs.move rfl rfl)) ?_
      refine E.GJ.take1 (i := 3) rfl (by kernel_rfl) (by kernel_rfl) (by kernel_rfl) (by kernel_rfl) rfl (by kernel_rfl) (by kernel_rfl) E.calm_cut rfl rfl rfl (fun w' hS => (E.Runs.move rfl rfl)) ?_
      refine E.GJ.take1 (i := 4) rfl (by kernel_rfl) (by kernel_rfl) (by kernel_rfl) (by kernel_rfl) rfl (by kernel_rfl) (by kernel_rfl) E.calm_cut rfl rfl rfl (fun w' hS => (E.Runs.indexAddrA rfl rfl rfl hu26 (by assumption) (by assumption) (by assumption) (by assumption) rfl)) ?_
      refine E.GJ.take1 (i := 5) rfl (by kernel_rfl) (by kernel_rfl) (by kernel_rfl) (by kernel_rfl) rfl (by kernel_rfl) (by kernel_rfl) E.calm_cut rfl rfl rfl (fun w' hS => (E.Runs.fieldAddr rfl rfl hu36 rfl (by assumption) rfl)) ?_
      refine E.GJ.take1 (i := 6) rfl (by kernel_rfl) (by kernel_rfl) (by kernel_rfl) (by kernel_rfl) rfl (by kernel_rfl) (by kernel_rfl) E.calm_cut rfl rfl rfl (fun w' hS => (E.Runs.fieldAddr rfl rfl hu23 rfl (by assumption) rfl)) ?_
      refine E.GJ.take1 (i := 7) rfl (by kernel_rfl) (by kernel_rfl) (by kernel_rfl) (by kernel_rfl) rfl (by kernel_rfl) (by kernel_rfl) E.calm_cut rfl rfl rfl (fun w' hS => (E.Runs.load rfl rfl hu3 (hS _ _ (.inl hadw) (pw_cell_below L8 S.c2)))) ?_
      refine E.GJ.take1 (i := 10) rfl (by kernel_rfl) (by kernel_rfl) (by kernel_rfl) (by kernel_rfl) rfl (by kernel_rfl) (by kernel_rfl) E.calm_cut rfl rfl rfl (fun w' hS => (E.Runs.fieldAddr rfl rfl hu49 rfl (by assumption) rfl)) ?_
      refine E.GJ.take1 (i := 11) rfl (by kernel_rfl) (by kernel_rfl) (by kernel_rfl) (by kernel_rfl) rfl (by kernel_rfl) (by kernel_rfl) E.calm_cut rfl rfl rfl (fun w' hS => (E.Runs.load1 rfl rfl hu47 rfl (hS _ _ (.inr (.inr rfl)) (E.blkc c7 rfl)))) ?_
      refine E.GJ.take2 (i := 12) rfl (by kernel_rfl) (by kernel_rfl) (by kernel_rfl) (by kernel_rfl) E.calm_cut rfl rfl rfl (fun w' hS => (E.Runs.fieldAddr rfl rfl hu25 rfl (by assumption) rfl)) ?_
      refine E.GJ.take2 (i := 13) rfl (by kernel_rfl) (by kernel_rfl) (by kernel_rfl) (by kernel_rfl) E.calm_cut rfl rfl rfl (fun w' hS => (E.Runs.fieldAddr rfl rfl hu23 rfl (by assumption) rfl)) ?_
      refine E.GJ.take2 (i := 14) rfl (by kernel_rfl) (by kernel_rfl) (by kernel_rfl) (by kernel_rfl) E.calm_cut rfl rfl rfl (fun w' hS => (E.Runs.load rfl rfl hu3 (hS.elim (fun hh => hh _ _ (.inr (.inl rfl)) (E.blkc c3 rfl)) (fun hh => hh _ _ rfl (E.blkc c3 rfl))))) ?_
      refine E.GJ.two (i := 8) (j := 15) (by kernel_rfl) (E.OJ.st rfl rfl rfl rfl (E.ST.litB rfl (E.epc rfl E.epn) (lit47 _) fun g52 w52 e52 b52 l52 => ⟨(E.SJ.before (by kernel_rfl)).mpr (K.below l52), ?_⟩)) (E.OJ.st rfl rfl rfl rfl (E.ST.litB rfl (E.epc rfl E.epn) (lit47 _) fun g59 w59 e59 b59 l59 => ⟨(E.SJ.before (by kernel_rfl)).mpr (K.below l59), ?_⟩))
      · have n52_R1 : ∀ k, k = g52 → some k ≠ (v).ownBlock := fun k hk h => by have := Kd.R_lt R1 _ h.symm; omega
        have n52_R2 : ∀ k, k = g52 → some k ≠ (u).ownBlock := fun k hk h => by have := Kd.R_lt R2 _ h.symm; omega
        replace b7 := blk_below b7 l52
        replace b3 := blk_below b3 l52
        replace b6 := blk_below b6 l52
        replace R1 := Kd.R_below R1 l52
        replace R2 := Kd.R_below R2 l52
        replace L := below_step L l52
        replace K := K.below l52
        have kk53 := fun (w1 : World) (gr : World.grownBy _ w1 _) => K.grown gr (row_free R1 b3 b7)
        refine E.GJ.two (i := 9) (j := 15) (by kernel_rfl) (E.OJ.st rfl rfl rfl rfl (E.ST.appendAt kI w.heap.size (w0 := w) (s := .tmp 45) (x := .tmp 52) rfl hu47 info3 rfl (by decide) (by decide) rfl rfl R1 (C_int1 b52) int_made L L.size (by rw [List.length_take]; omega) fun u53 w53 r53 k53 gr53 hat53 => ⟨(E.SJ.before (by kernel_rfl)).mpr (K.grown gr53 (row_free R1 b3 b7)), ?_⟩)) (E.OJ.st rfl rfl rfl rfl (E.ST.litB rfl (E.epc rfl E.epn) (lit47 _) fun g59 w59 e59 b59 l59 => ⟨(E.SJ.before (by kernel_rfl)).mpr (K.below l59), ?_⟩))
        · replace kk53 := kk53 _ gr53
          have ap' := ap.after hat53 (fun k hk => Kd.R_lt R2 k hk)
          replace R2 := R_beside R2 gr53 ap
          replace b7 := blk_grown b7 gr53 (Kd.R_ne R1 b7 (by decide))
          replace b3 := blk_grown b3 gr53 (Kd.R_ne R1 b3 (by decide))
          replace b6 := blk_grown b6 gr53 (Kd.R_ne R1 b6 (by decide))
          replace K := kk53
          replace R1 := r53
          replace L := k53
          replace ap := ap'
          clear ap' r53 k53
          refine E.GJ.take2 (i := 17) rfl (by kernel_rfl) (by kernel_rfl) (by kernel_rfl) (by kernel_rfl) E.calm_cut rfl rfl rfl (fun w' hS => (E.Runs.fieldAddr rfl rfl hu49 rfl (by assumption) rfl)) ?_
          refine E.GJ.one (i := 15) (by kernel_rfl) (E.OJ.st rfl rfl rfl rfl (E.ST.litB rfl (E.epc rfl E.epn) (lit47 _) fun g59 w59 e59 b59 l59 => ⟨(E.SJ.before (by kernel_rfl)).mpr (K.below l59), ?_⟩))
          have n59_R1 : ∀ k, k = g59 → some k ≠ (u53).ownBlock := fun k hk h => by have := Kd.R_lt R1 _ h.symm; omega
          have n59_R2 : ∀ k, k = g59 → some k ≠ (u).ownBlock := fun k hk h => by have := Kd.R_lt R2 _ h.symm; omega
          replace b7 := blk_below b7 l59
          replace b3 := blk_below b3 l59
          replace b6 := blk_below b6 l59
          replace R1 := Kd.R_below R1 l59
          replace R2 := Kd.R_below R2 l59
          replace L := below_step L l59
          replace K := K.below l59
          have kk60 := fun (w1 : World) (gr : World.grownBy _ w1 _) => K.grown gr (row_free R2 b3 b7)
          refine E.GJ.one (i := 16) (by kernel_rfl) (E.OJ.st rfl rfl rfl rfl (E.ST.appendAt kI w.heap.size (w0 := w) (s := .tmp 55) (x := .tmp 59) rfl hu47 info3 rfl (by decide) (by decide) rfl rfl R2 (C_int1 b59) int_made L L.size (by rw [List.length_take]; omega) fun u60 w60 r60 k60 gr60 hat60 => ⟨(E.SJ.before (by kernel_rfl)).mpr (K.grown gr60 (row_free R2 b3 b7)), ?_⟩))
          replace kk60 := kk60 _ gr60
          have ap' := ap.symm.after hat60 (fun k hk => Kd.R_lt R1 k hk)
          replace R1 := R_beside R1 gr60 ap.symm
          replace b7 := blk_grown b7 gr60 (Kd.R_ne R2 b7 (by decide))
          replace b3 := blk_grown b3 gr60 (Kd.R_ne R2 b3 (by decide))
          replace b6 := blk_grown b6 gr60 (Kd.R_ne R2 b6 (by decide))
          replace K := kk60
          replace R2 := r60
          replace L := k60
          replace ap := ap'.symm
          clear ap' r60 k60
          obtain ⟨A34, c34, h34⟩ := Kd.R_slice R1
          obtain ⟨A41, c41, h41⟩ := Kd.R_slice R2
          subst h34 h41
          have K0 : E.Keeps (fun k => k = g3) v8 _ := Keeps_w K (fun k hk => .inr (.inl hk))
          refine E.GJ.one (i := 18) (by kernel_rfl) (E.OJ.sn rfl rfl rfl (E.ST.storeSl rfl z47 o47 rfl rfl b7 rfl rfl fun w18 d7 l18 => ⟨(E.SJ.behind (by kernel_rfl)).mpr (K0.grown l18 (fun k hk e => by cases hk; exact n7_b3 e.symm)), ?_⟩))
          replace K0 := K0.grown l18 (fun k hk e => by cases hk; exact n7_b3 e.symm)
          replace b3 := blk_grown b3 l18 (E.nes n7_b3)
          replace b6 := blk_grown b6 l18 (E.nes n7_b6)
          replace R1 := Kd.R_grown1 R1 rfl l18 (Kd.R_ne R1 b7 (by decide))
          replace R2 := Kd.R_grown1 R2 rfl l18 (Kd.R_ne R2 b7 (by decide))
          replace L := E.below_own L h7_L l18
          replace b7 := d7
          clear d7
          refine E.GJ.take2 (i := 19) rfl (by kernel_rfl) (by kernel_rfl) (by kernel_rfl) (by kernel_rfl) E.calm_cut rfl rfl rfl (fun w' hS => (E.Runs.fieldAddr rfl rfl hu49 rfl (by assumption) rfl)) ?_
          refine E.GJ.one (i := 20) (by kernel_rfl) (E.OJ.sn rfl rfl rfl (E.ST.storeSl rfl z47 o47 rfl rfl b7 rfl rfl fun w20 d7 l20 => ⟨(E.SJ.behind (by kernel_rfl)).mpr (K0.grown l20 (fun k hk e => by cases hk; exact n7_b3 e.symm)), ?_⟩))
          replace K0 := K0.grown l20 (fun k hk e => by cases hk; exact n7_b3 e.symm)
          replace b3 := blk_grown b3 l20 (E.nes n7_b3)
          replace b6 := blk_grown b6 l20 (E.nes n7_b6)
          replace R1 := Kd.R_grown1 R1 rfl l20 (Kd.R_ne R1 b7 (by decide))
          replace R2 := Kd.R_grown1 R2 rfl l20 (Kd.R_ne R2 b7 (by decide))
          replace L := E.below_own L h7_L l20
          replace b7 := d7
          clear d7
          refine E.GJ.done (by kernel_rfl) ?_
          exact E.QG.meet2 _ _ (E.subc rfl (E.subc rfl (E.subc rfl (E.subc rfl (E.subc rfl (E.subc rfl (E.subn))))))) ⟨b7, by rw [hts]; exact R1, by rw [htc]; exact R2, ap, b3, b6, L⟩
        · have n59_R1 : ∀ k, k = g59 → some k ≠ (v).ownBlock := fun k hk h => by have := Kd.R_lt R1 _ h.symm; omega
          have n59_R2 : ∀ k, k = g59 → some k ≠ (u).ownBlock := fun k hk h => by have := Kd.R_lt R2 _ h.symm; omega
          replace b7 := blk_below b7 l59
          replace b3 := blk_below b3 l59
          replace b6 := blk_below b6 l59
          replace b52 := blk_below b52 l59
          replace R1 := Kd.R_below R1 l59
          replace R2 := Kd.R_below R2 l59
          replace L := below_step L l59
          replace K := K.below l59
          have kk53 := fun (w1 : World) (gr : World.grownBy _ w1 _) => K.grown gr (row_free R1 b3 b7)
          refine E.GJ.one (i := 9) (by kernel_rfl) (E.OJ.st rfl rfl rfl rfl (E.ST.appendAt kI w.heap.size (w0 := w) (s := .tmp 45) (x := .tmp 52) rfl hu47 info3 rfl (by decide) (by decide) rfl rfl R1 (C_int1 b52) int_made L L.size (by rw [List.length_take]; omega) fun u53 w53 r53 k53 gr53 hat53 => ⟨(E.SJ.before (by kernel_rfl)).mpr (K.grown gr53 (row_free R1 b3 b7)), ?_⟩))
          replace kk53 := kk53 _ gr53
          have ap' := ap.after hat53 (fun k hk => Kd.R_lt R2 k hk)
          replace R2 := R_beside R2 gr53 ap
          replace b7 := blk_grown b7 gr53 (Kd.R_ne R1 b7 (by decide))
          replace b3 := blk_grown b3 gr53 (Kd.R_ne R1 b3 (by decide))
          replace b6 := blk_grown b6 gr53 (Kd.R_ne R1 b6 (by decide))
          replace b59 := blk_grown b59 gr53 (n59_R1 _ rfl)
          replace K := kk53
          replace R1 := r53
          replace L := k53
          replace ap := ap'
          clear ap' r53 k53
          refine E.GJ.take2 (i := 17) rfl (by kernel_rfl) (by kernel_rfl) (by kernel_rfl) (by kernel_rfl) E.calm_cut rfl rfl rfl (fun w' hS => (E.Runs.fieldAddr rfl rfl hu49 rfl (by assumption) rfl)) ?_
          have kk60 := fun (w1 : World) (gr : World.grownBy _ w1 _) => K.grown gr (row_free R2 b3 b7)
          refine E.GJ.one (i := 16) (by kernel_rfl) (E.OJ.st rfl rfl rfl rfl (E.ST.appendAt kI w.heap.size (w0 := w) (s := .tmp 55) (x := .tmp 59) rfl hu47 info3 rfl (by decide) (by decide) rfl rfl R2 (C_int1 b59) int_made L L.size (by rw [List.length_take]; omega) fun u60 w60 r60 k60 gr60 hat60 => ⟨(E.SJ.before (by kernel_rfl)).mpr (K.grown gr60 (row_free R2 b3 b7)), ?_⟩))
          replace kk60 := kk60 _ gr60
          have ap' := ap.symm.after hat60 (fun k hk => Kd.R_lt R1 k hk)
          replace R1 := R_beside R1 gr60 ap.symm
          replace b7 := blk_grown b7 gr60 (Kd.R_ne R2 b7 (by decide))
          replace b3 := blk_grown b3 gr60 (Kd.R_ne R2 b3 (by decide))
          replace b6 := blk_grown b6 gr60 (Kd.R_ne R2 b6 (by decide))
          replace K := kk60
          replace R2 := r60
          replace L := k60
          replace ap := ap'.symm
          clear ap' r60 k60
          obtain ⟨A34, c34, h34⟩ := Kd.R_slice R1
          obtain ⟨A41, c41, h41⟩ := Kd.R_slice R2
          subst h34 h41
          have K0 : E.Keeps (fun k => k = g3) v8 _ := Keeps_w K (fun k hk => .inr (.inl hk))
          refine E.GJ.one (i := 18) (by kernel_rfl) (E.OJ.sn rfl rfl rfl (E.ST.storeSl rfl z47 o47 rfl rfl b7 rfl rfl fun w18 d7 l18 => ⟨(E.SJ.behind (by kernel_rfl)).mpr (K0.grown l18 (fun k hk e => by cases hk; exact n7_b3 e.symm)), ?_⟩))
          replace K0 := K0.grown l18 (fun k hk e => by cases hk; exact n7_b3 e.symm)
          replace b3 := blk_grown b3 l18 (E.nes n7_b3)
          replace b6 := blk_grown b6 l18 (E.nes n7_b6)
          replace R1 := Kd.R_grown1 R1 rfl l18 (Kd.R_ne R1 b7 (by decide))
          replace R2 := Kd.R_grown1 R2 rfl l18 (Kd.R_ne R2 b7 (by decide))
          replace L := E.below_own L h7_L l18
          replace b7 := d7
          clear d7
          refine E.GJ.take2 (i := 19) rfl (by kernel_rfl) (by kernel_rfl) (by kernel_rfl) (by kernel_rfl) E.calm_cut rfl rfl rfl (fun w' hS => (E.Runs.fieldAddr rfl rfl hu49 rfl (by assumption) rfl)) ?_
          refine E.GJ.one (i := 20) (by kernel_rfl) (E.OJ.sn rfl rfl rfl (E.ST.storeSl rfl z47 o47 rfl rfl b7 rfl rfl fun w20 d7 l20 => ⟨(E.SJ.behind (by kernel_rfl)).mpr (K0.grown l20 (fun k hk e => by cases hk; exact n7_b3 e.symm)), ?_⟩))
          replace K0 := K0.grown l20 (fun k hk e => by cases hk; exact n7_b3 e.symm)
          replace b3 := blk_grown b3 l20 (E.nes n7_b3)
          replace b6 := blk_grown b6 l20 (E.nes n7_b6)
          replace R1 := Kd.R_grown1 R1 rfl l20 (Kd.R_ne R1 b7 (by decide))
          replace R2 := Kd.R_grown1 R2 rfl l20 (Kd.R_ne R2 b7 (by decide))
          replace L := E.below_own L h7_L l20
          replace b7 := d7
          clear d7
          refine E.GJ.done (by kernel_rfl) ?_
          exact E.QG.meet2 _ _ (E.subc rfl (E.subc rfl (E.subc rfl (E.subc rfl (E.subc rfl (E.subc rfl (E.subn))))))) ⟨b7, by rw [hts]; exact R1, by rw [htc]; exact R2, ap, b3, b6, L⟩
      · have n59_R1 : ∀ k, k = g59 → some k ≠ (v).ownBlock := fun k hk h => by have := Kd.R_lt R1 _ h.symm; omega
        have n59_R2 : ∀ k, k = g59 → some k ≠ (u).ownBlock := fun k hk h => by have := Kd.R_lt R2 _ h.symm; omega
        replace b7 := blk_below b7 l59
        replace b3 := blk_below b3 l59
        replace b6 := blk_below b6 l59
        replace R1 := Kd.R_below R1 l59
        replace R2 := Kd.R_below R2 l59
        replace L := below_step L l59
        replace K := K.below l59
        refine E.GJ.one (i := 8) (by kernel_rfl) (E.OJ.st rfl rfl rfl rfl (E.ST.litB rfl (E.epc rfl E.epn) (lit47 _) fun g52 w52 e52 b52 l52 => ⟨(E.SJ.before (by kernel_rfl)).mpr (K.below l52), ?_⟩))
        have n52_R1 : ∀ k, k = g52 → some k ≠ (v).ownBlock := fun k hk h => by have := Kd.R_lt R1 _ h.symm; omega
        have n52_R2 : ∀ k, k = g52 → some k ≠ (u).ownBlock := fun k hk h => by have := Kd.R_lt R2 _ h.symm; omega
        replace b7 := blk_below b7 l52
        replace b3 := blk_below b3 l52
        replace b6 := blk_below b6 l52
        replace b59 := blk_below b59 l52
        replace R1 := Kd.R_below R1 l52
        replace R2 := Kd.R_below R2 l52
        replace L := below_step L l52
        replace K := K.below l52
        have kk53 := fun (w1 : World) (gr : World.grownBy _ w1 _) => K.grown gr (row_free R1 b3 b7)
        refine E.GJ.one (i := 9) (by kernel_rfl) (E.OJ.st rfl rfl rfl rfl (E.ST.appendAt kI w.heap.size (w0 := w) (s := .tmp 45) (x := .tmp 52) rfl hu47 info3 rfl (by decide) (by decide) rfl rfl R1 (C_int1 b52) int_made L L.size (by rw [List.length_take]; omega) fun u53 w53 r53 k53 gr53 hat53 => ⟨(E.SJ.before (by kernel_rfl)).mpr (K.grown gr53 (row_free R1 b3 b7)), ?_⟩))
        replace kk53 := kk53 _ gr53
        have ap' := ap.after hat53 (fun k hk => Kd.R_lt R2 k hk)
        replace R2 := R_beside R2 gr53 ap
        replace b7 := blk_grown b7 gr53 (Kd.R_ne R1 b7 (by decide))
        replace b3 := blk_grown b3 gr53 (Kd.R_ne R1 b3 (by decide))
        replace b6 := blk_grown b6 gr53 (Kd.R_ne R1 b6 (by decide))
        replace b59 := blk_grown b59 gr53 (n59_R1 _ rfl)
        replace K := kk53
        replace R1 := r53
        replace L := k53
        replace ap := ap'
        clear ap' r53 k53
        refine E.GJ.take2 (i := 17) rfl (by kernel_rfl) (by kernel_rfl) (by kernel_rfl) (by kernel_rfl) E.calm_cut rfl rfl rfl (fun w' hS => (E.Runs.fieldAddr rfl rfl hu49 rfl (by assumption) rfl)) ?_
        have kk60 := fun (w1 : World) (gr : World.grownBy _ w1 _) => K.grown gr (row_free R2 b3 b7)
        refine E.GJ.one (i := 16) (by kernel_rfl) (E.OJ.st rfl rfl rfl rfl (E.ST.appendAt kI w.heap.size (w0 := w) (s := .tmp 55) (x := .tmp 59) rfl hu47 info3 rfl (by decide) (by decide) rfl rfl R2 (C_int1 b59) int_made L L.size (by rw [List.length_take]; omega) fun u60 w60 r60 k60 gr60 hat60 => ⟨(E.SJ.before (by kernel_rfl)).mpr (K.grown gr60 (row_free R2 b3 b7)), ?_⟩))
        replace kk60 := kk60 _ gr60
        have ap' := ap.symm.after hat60 (fun k hk => Kd.R_lt R1 k hk)
        replace R1 := R_beside R1 gr60 ap.symm
        replace b7 := blk_grown b7 gr60 (Kd.R_ne R2 b7 (by decide))
        replace b3 := blk_grown b3 gr60 (Kd.R_ne R2 b3 (by decide))
        replace b6 := blk_grown b6 gr60 (Kd.R_ne R2 b6 (by decide))
        replace K := kk60
        replace R2 := r60
        replace L := k60
        replace ap := ap'.symm
        clear ap' r60 k60
        obtain ⟨A34, c34, h34⟩ := Kd.R_slice R1
        obtain ⟨A41, c41, h41⟩ := Kd.R_slice R2
        subst h34 h41
        have K0 : E.Keeps (fun k => k = g3) v8 _ := Keeps_w K (fun k hk => .inr (.inl hk))
        refine E.GJ.one (i := 18) (by kernel_rfl) (E.OJ.sn rfl rfl rfl (E.ST.storeSl rfl z47 o47 rfl rfl b7 rfl rfl fun w18 d7 l18 => ⟨(E.SJ.behind (by kernel_rfl)).mpr (K0.grown l18 (fun k hk e => by cases hk; exact n7_b3 e.symm)), ?_⟩))
        replace K0 := K0.grown l18 (fun k hk e => by cases hk; exact n7_b3 e.symm)
        replace b3 := blk_grown b3 l18 (E.nes n7_b3)
        replace b6 := blk_grown b6 l18 (E.nes n7_b6)
        replace R1 := Kd.R_grown1 R1 rfl l18 (Kd.R_ne R1 b7 (by decide))
        replace R2 := Kd.R_grown1 R2 rfl l18 (Kd.R_ne R2 b7 (by decide))
        replace L := E.below_own L h7_L l18
        replace b7 := d7
        clear d7
        refine E.GJ.take2 (i := 19) rfl (by kernel_rfl) (by kernel_rfl) (by kernel_rfl) (by kernel_rfl) E.calm_cut rfl rfl rfl (fun w' hS => (E.Runs.fieldAddr rfl rfl hu49 rfl (by assumption) rfl)) ?_
        refine E.GJ.one (i := 20) (by kernel_rfl) (E.OJ.sn rfl rfl rfl (E.ST.storeSl rfl z47 o47 rfl rfl b7 rfl rfl fun w20 d7 l20 => ⟨(E.SJ.behind (by kernel_rfl)).mpr (K0.grown l20 (fun k hk e => by cases hk; exact n7_b3 e.symm)), ?_⟩))
        replace K0 := K0.grown l20 (fun k hk e => by cases hk; exact n7_b3 e.symm)
        replace b3 := blk_grown b3 l20 (E.nes n7_b3)
        replace b6 := blk_grown b6 l20 (E.nes n7_b6)
        replace R1 := Kd.R_grown1 R1 rfl l20 (Kd.R_ne R1 b7 (by decide))
        replace R2 := Kd.R_grown1 R2 rfl l20 (Kd.R_ne R2 b7 (by decide))
        replace L := E.below_own L h7_L l20
        replace b7 := d7
        clear d7
        refine E.GJ.done (by kernel_rfl) ?_
        exact E.QG.meet2 _ _ (E.subc rfl (E.subc rfl (E.subc rfl (E.subc rfl (E.subc rfl (E.subc rfl (E.subn))))))) ⟨b7, by rw [hts]; exact R1, by rw [htc]; exact R2, ap, b3, b6, L⟩
    clear b7 R1 R2 ap b3 b6 L
    intro v u w8 ⟨b7, R1, R2, ap, b3, b6, L⟩
    refine E.QG.block_normal ?_
    refine E.QG.code ?_
    refine E.CG.list ?_
    refine E.GL.run rfl rfl rfl (E.Runs.move rfl rfl) ?_
    refine E.GL.run rfl rfl rfl (E.Runs.add rfl rfl rfl (IntWalk.i64_in _ (by omega))) ?_
    refine E.GL.run rfl rfl rfl (E.Runs.assign rfl rfl) ?_
    refine E.GL.done ?_
    exact E.QG.round (i + 1) (E.subc rfl (E.subc rfl (E.subc rfl (E.subc rfl (E.subc rfl (E.subc rfl E.subn)))))) ⟨by omega, v, u, b7, R1, R2, ap, b3, b6, L⟩ (by omega)
  · obtain rfl : i = l.length := by omega
    rw [List.take_of_length_le (by simp)] at R1
    rw [List.take_of_length_le (by simp)] at R2
    obtain ⟨Ar, cr, hv1⟩ := Kd.R_slice R1
    obtain ⟨Ac, cc, hv2⟩ := Kd.R_slice R2
    subst hv1 hv2
    refine E.GL.done ?_
    refine E.QG.code ?_
    refine E.CG.cond_f rfl ?_
    refine E.CG.exit ?_
    refine E.QG.pass_exit ?_
    refine E.QG.pass_exit ?_
    refine E.QG.block_here ?_
    refine E.QG.code ?_
    refine E.CG.seq ?_
    refine E.CG.list ?_
    refine E.GL.run rfl rfl rfl (E.Runs.loads (cs := [.slice Ar (l.map fun s => s.f2.f0).length cr, .slice Ac (l.map fun _ => H.cl).length cc, .int .i64 H.dh]) rfl rfl hu49 rfl info49s (blk_cells b7)) ?_
    have b6o := b6
    refine E.GL.store_whole rfl rfl rfl rfl rfl b6 rfl info49s (case_one _ _ _ _ _ _ _) fun wS10_1 c6 lS10_1 => ?_
    replace b3 := blk_grown b3 lS10_1 (E.nes (by first | assumption | exact Ne.symm (by assumption)))
    replace b7 := blk_grown b7 lS10_1 (E.nes (by first | assumption | exact Ne.symm (by assumption)))
    replace L := E.below_own L h6_L lS10_1
    replace b6 := c6
    clear c6
    replace R1 := Kd.R_grown1 R1 rfl lS10_1 (Kd.R_ne R1 b6o (by decide))
    replace R2 := Kd.R_grown1 R2 rfl lS10_1 (Kd.R_ne R2 b6o (by decide))
    have C1 := (Kd.R_reads' R1).2.2
    have C2 := (Kd.R_reads' R2).2.2
    simp only [List.length_map] at C1 C2 b6
    refine E.GL.done ?_
    refine E.QG.code ?_
    refine E.CG.ret ?_
    exact E.QG.result_c rfl rfl b6 hu49 rfl info49s ⟨Ar, cr, Ac, cc, rfl, C1, C2, L⟩

end Go.Proofs.Ythdbkhdiaehblaa.T
