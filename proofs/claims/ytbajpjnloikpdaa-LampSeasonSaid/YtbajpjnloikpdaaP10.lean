/- The chapter's examples: the walks of Far, Copy, Example and works. -/
import Derived.Test.YtbajpjnloikpdaaP9
namespace Go.Proofs.Ytbajpjnloikpdaa.T
open Go.RowKit Go.Proofs.YtbajpjnloikpdaaW.PrintWords Go.Proofs.YtbajpjnloikpdaaW.PrintMore
open Go.Proofs.Ytbajpjnloikpdaa.P
set_option linter.unusedVariables false
set_option linter.unusedSimpArgs false

theorem nine_one (a b c d e f g i : Int) (A : Option Addr) (n k : Nat) : (#[.int .i64 a, .int .i64 b, .int .i64 c, .int .i64 d, .int .i64 e, .int .i64 f, .int .i64 g, .slice A n k, .int .i64 i] : Array Value).all (·.oneCell') = true := by simp [Value.oneCell']
set_option maxRecDepth 100000 in
theorem build64 (a b c : Int) (W : World) : (Instr.build 64 #[(0, .int .i64 a), (1, .int .i64 b), (2, .int .i64 c)]).run Try.prog W = .ok (.agg #[.int .i64 a, .int .i64 b, .int .i64 c]) W := by
  have hu3 := Try.underlying3
  have hu64 := Try.underlying64
  go_simp
set_option maxRecDepth 100000 in
theorem build26 (a b c d e f g : Int) (A : Option Addr) (n k : Nat) (W : World) : (Instr.build 26 #[(0, .agg #[.int .i64 a, .int .i64 b]), (1, .agg #[.int .i64 c, .int .i64 d]), (2, .agg #[.int .i64 e, .int .i64 f]), (3, .int .i64 g), (4, .slice A n k)]).run Try.prog W = .ok (.agg #[.int .i64 a, .int .i64 b, .int .i64 c, .int .i64 d, .int .i64 e, .int .i64 f, .int .i64 g, .slice A n k, .int .i64 0]) W := by
  have hu3 := Try.underlying3
  have hu23 := Try.underlying23
  have hu24 := Try.underlying24
  have hu26 := Try.underlying26
  go_simp
def three (s : S64) : List Value := [.int .i64 s.f0, .int .i64 s.f1, .int .i64 s.f2]
set_option maxRecDepth 100000 in
theorem lit24 (a b : S64) (W : World) : (Instr.buildSlice 24 2 #[(0, .agg #[.int .i64 a.f0, .int .i64 a.f1, .int .i64 a.f2]), (1, .agg #[.int .i64 b.f0, .int .i64 b.f1, .int .i64 b.f2])]).run Try.prog W = .ok (.slice (some ⟨W.heap.size, 0, none⟩) 2 2) (W.alloc (.cells (three a ++ three b).toArray 64 (0, 0))) := by
  have hu24 := Try.underlying24
  go_simp
  rfl
theorem C_two {w : World} {g : Nat} (a b : S64) (hb : w.heap[g]? = some (.cells (three a ++ three b).toArray 64 (0, 0))) : Kd.C k64 w (some ⟨g, 0, none⟩) 2 [a, b] := by
  refine ⟨rfl, by omega, fun _ => ⟨_, rfl, ?_⟩⟩
  intro j p hj
  have key : ∀ (i : Nat) (u : Value), (three p)[i]? = some u → w.cell? ((⟨g, 0, none⟩ : Addr).add (j * 3 + i)) = some u := by
    intro i u hu
    have hi : i < 3 := (List.getElem?_eq_some_iff.1 hu).1
    rw [Addr.add_mid, blk_cell hb]
    rcases j with _ | _ | j
    · cases hj
      rcases i with _ | _ | _ | i <;> first | exact hu | omega
    · cases hj
      rcases i with _ | _ | _ | i <;> first | exact hu | omega
    · simp at hj
  exact ⟨three p, rfl, k64_mk w p, key⟩
theorem lit24n (W : World) : (Instr.buildSlice 24 0 #[]).run Try.prog W = .ok (.slice (some ⟨W.heap.size, 0, none⟩) 0 0) (W.alloc (.cells #[] 64 (0, 0))) := by
  have hu24 := Try.underlying24
  go_simp
theorem lit27n (W : World) : (Instr.buildSlice 27 0 #[]).run Try.prog W = .ok (.slice (some ⟨W.heap.size, 0, none⟩) 0 0) (W.alloc (.cells #[] 3 (0, 0))) := by
  have hu27 := Try.underlying27
  go_simp
theorem k64_made {W : World} {base : Nat} (x : S64) (cs : List Value) (h : k64.K W x cs) : k64.M W base (fun _ => False) x cs := by
  obtain rfl := k64_open h
  exact k64_mkM _ _ _ _
abbrev eM : Lm := ⟨100, 104, 2, 4, 60, 110, 12, [⟨5, 84, 92⟩, ⟨10, 60, 71⟩], 0⟩
def far (M : Lm) : Prop := 40 < M.gs.length ∨ LampOk M ∧ 11 < M.fh - M.fl
instance (M : Lm) : Decidable (far M) := by unfold far; infer_instance
set_option maxRecDepth 100000 in
set_option maxHeartbeats 8000000 in

theorem far_calls (M : Lm) (A : Option Addr) (c : Nat) (w : World) (r : Bool) (hb : r = true ↔ far M) (hr : Kd.C k64 w A M.gs.length M.gs) :
    Calls Try.prog 12 #[lv M A c] w fun e w' => e = .returned (.bool r) ∧ Below w.heap.size w w' := by
  have hu3 := Try.underlying3
  have hu23 := Try.underlying23
  have hu24 := Try.underlying24
  have hu26 := Try.underlying26
  obtain ⟨z3, o3⟩ := info_some info3s (by decide)
  obtain ⟨z23, o23⟩ := info_some info23s (by decide)
  obtain ⟨z24, o24⟩ := info_some info24s (by decide)
  refine E.enter (N := 22) Try.func12 rfl Try.ntmps12 (args := [lv M A c]) (by simp) ?_
  have L := Below.refl w.heap.size w
  refine E.CG.seq ?_
  refine E.CG.list ?_
  refine E.GL.st rfl rfl rfl (E.ST.box rfl rfl fun g1 w1 e1 b1 l1 => ?_)
  have h1_L : w.heap.size ≤ g1 := by rw [e1]; exact L.size
  replace L := below_step L l1
  refine E.GL.run rfl rfl rfl (E.Runs.assign rfl rfl) ?_
  refine E.GL.done ?_
  refine E.QG.code ?_
  refine E.CG.seq ?_
  refine E.CG.list ?_
  refine E.GL.run rfl rfl rfl (E.Runs.fieldAddr rfl rfl hu26 rfl (by assumption) rfl) ?_
  refine E.GL.run rfl rfl rfl (E.Runs.load1 rfl rfl hu24 rfl (by first | assumption | exact E.blkc (by assumption) rfl | exact pw_cell_below L (by assumption))) ?_
  refine E.GL.run rfl rfl rfl (E.Runs.len rfl rfl hu24) ?_
  refine E.GL.cmp rfl rfl rfl (fun _ h => (E.Runs.gtr rfl rfl rfl h)) (fun h6 => ?_) (fun h6 => ?_)
  · refine E.GL.run rfl rfl rfl (E.Runs.move rfl rfl) ?_
    refine E.GL.skip rfl rfl rfl ?_
    refine E.GL.skip rfl rfl rfl ?_
    refine E.GL.skip rfl rfl rfl ?_
    refine E.GL.skip rfl rfl rfl ?_
    refine E.GL.skip rfl rfl rfl ?_
    refine E.GL.skip rfl rfl rfl ?_
    refine E.GL.skip rfl rfl rfl ?_
    refine E.GL.skip rfl rfl rfl ?_
    refine E.GL.skip rfl rfl rfl ?_
    refine E.GL.skip rfl rfl rfl ?_
    refine E.GL.skip rfl rfl rfl ?_
    refine E.GL.skip rfl rfl rfl ?_
    refine E.GL.skip rfl rfl rfl ?_
    refine E.GL.run rfl rfl rfl (E.Runs.pick_t rfl rfl rfl) ?_
    refine E.GL.run rfl rfl rfl (E.Runs.assign rfl rfl) ?_
    refine E.GL.done ?_
    refine E.QG.code ?_
    refine E.CG.ret ?_
    exact E.QG.result rfl rfl ⟨by rw [hb.mpr (.inl (by omega))], L⟩
  · refine E.GL.run rfl rfl rfl (E.Runs.move rfl rfl) ?_
    refine E.GL.run rfl rfl rfl (E.Runs.loads (cs := [.int .i64 M.fl, .int .i64 M.fh, .int .i64 M.al, .int .i64 M.ah, .int .i64 M.nl, .int .i64 M.nh, .int .i64 M.ra, .slice A M.gs.length c, .int .i64 M.wr]) rfl rfl hu26 rfl info26s (blk_cells b1)) ?_
    refine E.GL.st rfl rfl rfl (E.ST.call rfl ent40 (E.evc rfl E.evn) ((check_r M A c _ (Kd.C_below hr L) (by omega)).mono ?_))
    rintro e w9 ⟨rfl, l9⟩
    refine ⟨_, rfl, ?_⟩
    replace b1 := blk_below b1 l9
    replace L := below_step L l9
    refine E.GL.cmp rfl rfl rfl (fun _ h => (E.Runs.eql rfl rfl rfl h)) (fun h10 => ?_) (fun h10 => ?_)
    · have hV := (checkE_ok M).mp h10
      have hf0 := hV.1.1.1
      have hf1 := hV.1.1.2.1
      have hf2 := hV.1.1.2.2
      refine E.GL.run rfl rfl rfl (E.Runs.move rfl rfl) ?_
      refine E.GL.run rfl rfl rfl (E.Runs.fieldAddr rfl rfl hu26 rfl (by assumption) rfl) ?_
      refine E.GL.run rfl rfl rfl (E.Runs.fieldAddr rfl rfl hu23 rfl (by assumption) rfl) ?_
      refine E.GL.run rfl rfl rfl (E.Runs.load rfl rfl hu3 (by first | assumption | exact E.blkc (by assumption) rfl | exact pw_cell_below L (by assumption))) ?_
      refine E.GL.run rfl rfl rfl (E.Runs.fieldAddr rfl rfl hu26 rfl (by assumption) rfl) ?_
      refine E.GL.run rfl rfl rfl (E.Runs.fieldAddr rfl rfl hu23 rfl (by assumption) rfl) ?_
      refine E.GL.run rfl rfl rfl (E.Runs.load rfl rfl hu3 (by first | assumption | exact E.blkc (by assumption) rfl | exact pw_cell_below L (by assumption))) ?_
      refine E.GL.run rfl rfl rfl (E.Runs.sub rfl rfl rfl (IntWalk.i64_in _ (by omega))) ?_
      refine E.GL.cmp rfl rfl rfl (fun _ h => (E.Runs.gtr rfl rfl rfl h)) (fun h19 => ?_) (fun h19 => ?_)
      · refine E.GL.run rfl rfl rfl (E.Runs.pick_t rfl rfl rfl) ?_
        refine E.GL.run rfl rfl rfl (E.Runs.pick_f rfl rfl rfl) ?_
        refine E.GL.run rfl rfl rfl (E.Runs.assign rfl rfl) ?_
        refine E.GL.done ?_
        refine E.QG.code ?_
        refine E.CG.ret ?_
        exact E.QG.result rfl rfl ⟨by rw [hb.mpr (.inr ⟨hV, by omega⟩)], L⟩
      · refine E.GL.run rfl rfl rfl (E.Runs.pick_t rfl rfl rfl) ?_
        refine E.GL.run rfl rfl rfl (E.Runs.pick_f rfl rfl rfl) ?_
        refine E.GL.run rfl rfl rfl (E.Runs.assign rfl rfl) ?_
        refine E.GL.done ?_
        refine E.QG.code ?_
        refine E.CG.ret ?_
        exact E.QG.result rfl rfl ⟨by rw [bool_no hb (fun k => by rcases k with k | k; omega; have := k.2; omega)], L⟩
    · have hV := fun k => h10 ((checkE_ok M).mpr k)
      refine E.GL.run rfl rfl rfl (E.Runs.move rfl rfl) ?_
      refine E.GL.skip rfl rfl rfl ?_
      refine E.GL.skip rfl rfl rfl ?_
      refine E.GL.skip rfl rfl rfl ?_
      refine E.GL.skip rfl rfl rfl ?_
      refine E.GL.skip rfl rfl rfl ?_
      refine E.GL.skip rfl rfl rfl ?_
      refine E.GL.skip rfl rfl rfl ?_
      refine E.GL.skip rfl rfl rfl ?_
      refine E.GL.run rfl rfl rfl (E.Runs.pick_f rfl rfl rfl) ?_
      refine E.GL.run rfl rfl rfl (E.Runs.pick_f rfl rfl rfl) ?_
      refine E.GL.run rfl rfl rfl (E.Runs.assign rfl rfl) ?_
      refine E.GL.done ?_
      refine E.QG.code ?_
      refine E.CG.ret ?_
      exact E.QG.result rfl rfl ⟨by rw [bool_no hb (fun k => by rcases k with k | k; omega; exact hV k.1)], L⟩

set_option maxRecDepth 100000 in
set_option maxHeartbeats 8000000 in

theorem copy_calls (M : Lm) (A : Option Addr) (c : Nat) (w : World) (hr : Kd.C k64 w A M.gs.length M.gs) (hn : M.gs.length ≤ 1000000) :
    Calls Try.prog 15 #[lv M A c] w fun e w' => ∃ A1 c1, e = .returned (lv M A1 c1) ∧ Kd.R k64 64 w' w.heap.size (fun _ => True) (.slice A1 M.gs.length c1) M.gs ∧ Below w.heap.size w w' := by
  have hu3 := Try.underlying3
  have hu24 := Try.underlying24
  have hu26 := Try.underlying26
  obtain ⟨z3, o3⟩ := info_some info3s (by decide)
  obtain ⟨z24, o24⟩ := info_some info24s (by decide)
  refine E.enter (N := 11) Try.func15 rfl Try.ntmps15 (args := [lv M A c]) (by simp) ?_
  have L := Below.refl w.heap.size w
  refine E.CG.seq ?_
  refine E.CG.list ?_
  refine E.GL.st rfl rfl rfl (E.ST.box rfl rfl fun g1 w1 e1 b1 l1 => ?_)
  have h1_L : w.heap.size ≤ g1 := by rw [e1]; exact L.size
  replace L := below_step L l1
  refine E.GL.st rfl rfl rfl (E.ST.alloc rfl info26z fun g2 w2 e2 b2 l2 => ?_)
  have h2_L : w.heap.size ≤ g2 := by rw [e2]; exact L.size
  have n2_b1 : g1 ≠ g2 := by have := blk_lt b1; omega
  replace b1 := blk_below b1 l2
  replace L := below_step L l2
  refine E.GL.done ?_
  refine E.QG.code ?_
  refine E.CG.seq ?_
  refine E.CG.list ?_
  refine E.GL.run rfl rfl rfl (E.Runs.loads (cs := [.int .i64 M.fl, .int .i64 M.fh, .int .i64 M.al, .int .i64 M.ah, .int .i64 M.nl, .int .i64 M.nh, .int .i64 M.ra, .slice A M.gs.length c, .int .i64 M.wr]) rfl rfl hu26 rfl info26s (blk_cells b1)) ?_
  refine E.GL.st rfl rfl rfl (E.ST.alloc rfl info26z fun g3 w3 e3 b3 l3 => ?_)
  have h3_L : w.heap.size ≤ g3 := by rw [e3]; exact L.size
  have n3_b1 : g1 ≠ g3 := by have := blk_lt b1; omega
  have n3_b2 : g2 ≠ g3 := by have := blk_lt b2; omega
  replace b1 := blk_below b1 l3
  replace b2 := blk_below b2 l3
  replace L := below_step L l3
  refine E.GL.store_whole rfl rfl rfl rfl rfl b3 rfl info26s (nine_one _ _ _ _ _ _ _ _ _ _ _) fun wS1_2 c3 lS1_2 => ?_
  replace b1 := blk_grown b1 lS1_2 (E.nes (by first | assumption | exact Ne.symm (by assumption)))
  replace b2 := blk_grown b2 lS1_2 (E.nes (by first | assumption | exact Ne.symm (by assumption)))
  replace L := E.below_own L h3_L lS1_2
  replace b3 := c3
  clear c3
  refine E.GL.done ?_
  refine E.QG.code ?_
  refine E.CG.seq ?_
  refine E.CG.list ?_
  refine E.GL.st rfl rfl rfl (E.ST.litAt k64 w.heap.size (w0 := w) (ys := ([] : List S64)) (inner := []) rfl rfl E.epn lit24n (Reps.none _ _) L L.size (by simp) fun u5 w5 r5 k5 l5 n5 => ?_)
  replace L := k5
  replace b1 := blk_below b1 l5
  replace b2 := blk_below b2 l5
  replace b3 := blk_below b3 l5
  refine E.GL.run rfl rfl rfl (E.Runs.fieldAddr rfl rfl hu26 rfl (by assumption) rfl) ?_
  refine E.GL.run rfl rfl rfl (E.Runs.load1 rfl rfl hu24 rfl (by first | assumption | exact E.blkc (by assumption) rfl | exact pw_cell_below L (by assumption))) ?_
  refine E.GL.st rfl rfl rfl (E.ST.appendRows k64 w.heap.size (w0 := w) (s := .tmp 5) (x := .tmp 7) rfl hu24 info64 rfl (by decide) (by decide) rfl rfl r5 (Kd.C_below hr L) k64_made L L.size (by simp only [List.length_nil]; omega) fun u8 w8 r8 k8 g8 => ?_)
  rw [List.nil_append] at r8
  obtain ⟨A8, c8, hv8⟩ := Kd.R_slice r8
  subst hv8
  replace b1 := blk_grown b1 g8 (Kd.R_ne r5 b1 (by decide))
  replace b2 := blk_grown b2 g8 (Kd.R_ne r5 b2 (by decide))
  replace b3 := blk_grown b3 g8 (Kd.R_ne r5 b3 (by decide))
  replace L := k8
  clear r5
  refine E.GL.run rfl rfl rfl (E.Runs.fieldAddr rfl rfl hu26 rfl (by assumption) rfl) ?_
  refine E.GL.sn rfl rfl (E.ST.storeSl (cs := [.int .i64 M.fl, .int .i64 M.fh, .int .i64 M.al, .int .i64 M.ah, .int .i64 M.nl, .int .i64 M.nh, .int .i64 M.ra, .slice A M.gs.length c, .int .i64 M.wr]) rfl z24 o24 rfl rfl b3 rfl rfl fun wS c3 lS => ?_)
  replace b1 := blk_grown b1 lS (E.nes (by first | assumption | exact Ne.symm (by assumption)))
  replace b2 := blk_grown b2 lS (E.nes (by first | assumption | exact Ne.symm (by assumption)))
  replace r8 := Kd.R_grown1 r8 rfl lS (by first | assumption | exact Kd.R_ne r8 b3 (by decide))
  replace L := E.below_own L h3_L lS
  replace b3 := c3
  clear c3
  refine E.GL.done ?_
  refine E.QG.code ?_
  refine E.CG.seq ?_
  refine E.CG.list ?_
  refine E.GL.run rfl rfl rfl (E.Runs.loads (cs := [.int .i64 M.fl, .int .i64 M.fh, .int .i64 M.al, .int .i64 M.ah, .int .i64 M.nl, .int .i64 M.nh, .int .i64 M.ra, .slice A8 M.gs.length c8, .int .i64 M.wr]) rfl rfl hu26 rfl info26s (blk_cells b3)) ?_
  refine E.GL.store_whole rfl rfl rfl rfl rfl b2 rfl info26s (nine_one _ _ _ _ _ _ _ _ _ _ _) fun wS3_1 c2 lS3_1 => ?_
  replace b1 := blk_grown b1 lS3_1 (E.nes (by first | assumption | exact Ne.symm (by assumption)))
  replace b3 := blk_grown b3 lS3_1 (E.nes (by first | assumption | exact Ne.symm (by assumption)))
  replace r8 := Kd.R_grown1 r8 rfl lS3_1 (by first | assumption | exact Kd.R_ne r8 b2 (by decide))
  replace L := E.below_own L h2_L lS3_1
  replace b2 := c2
  clear c2
  refine E.GL.done ?_
  refine E.QG.code ?_
  refine E.CG.ret ?_
  exact E.QG.result_c rfl rfl b2 hu26 rfl info26s ⟨_, _, rfl, r8, L⟩

end Go.Proofs.Ytbajpjnloikpdaa.T
