/- All truths of a lamp: the walk of open. -/
import Derived.Test.YtbajpjnloikpdaaP2
import Derived.Test.YtbajpjnloikpdaaE10
namespace Go.Proofs.Ytbajpjnloikpdaa.T
open Go.RowKit Go.Proofs.YtbajpjnloikpdaaW.PrintWords Go.Proofs.YtbajpjnloikpdaaW.PrintMore
open Go.Proofs.Ytbajpjnloikpdaa.P
set_option linter.unusedVariables false
set_option linter.unusedSimpArgs false
/-! #### what lies in cells abides a turn of what is no cells -/
theorem no_cells {X : World} {row : Option Nat} {B : Nat} (hr : ∀ r, row = some r → B ≤ r ∧ ∃ o : Obj, X.heap[r]? = some o ∧ o.isCells = false) {j : Nat} {cs : Array Value} {t : TypeId} {f : Nat × Nat} (h : X.heap[j]? = some (.cells cs t f)) : some j ≠ row := fun e => by
  obtain ⟨_, o, ho, hc⟩ := hr j e.symm
  rw [h] at ho
  cases ho
  cases hc
theorem own_blk {X Y : World} {row : Option Nat} {B : Nat} (hg : X.grownBy Y row) (hr : ∀ r, row = some r → B ≤ r ∧ ∃ o : Obj, X.heap[r]? = some o ∧ o.isCells = false) {j : Nat} {cs : Array Value} {t : TypeId} {f : Nat × Nat} (h : X.heap[j]? = some (.cells cs t f)) : Y.heap[j]? = some (.cells cs t f) :=
  (hg.block j (Array.getElem?_eq_some_iff.1 h).1 (no_cells hr h)).trans h
theorem own_row {α : Type} {d : Kd α} {e base : Nat} {v : Value} {xs : List α} {X Y : World} {row : Option Nat} {B : Nat} (hg : X.grownBy Y row) (hr : ∀ r, row = some r → B ≤ r ∧ ∃ o : Obj, X.heap[r]? = some o ∧ o.isCells = false) (h : Kd.R d e X base (fun _ => True) v xs) : Kd.R d e Y base (fun _ => True) v xs :=
  Kd.R_mono (Kd.R_grown (Kd.R_bound h) hg (fun k hk => by obtain ⟨_, _, _, q, _, cells, hc⟩ := hk; exact no_cells hr hc)) (fun _ _ => trivial)
theorem own_below {n : Nat} {w0 X Y : World} {row : Option Nat} {B : Nat} (hn : n ≤ B) (hg : X.grownBy Y row) (hr : ∀ r, row = some r → B ≤ r ∧ ∃ o : Obj, X.heap[r]? = some o ∧ o.isCells = false) (h : Below n w0 X) (hs : n ≤ X.heap.size) : Below n w0 Y :=
  h.grown hg hs (fun k e => by have := (hr k e).1; omega)
theorem keeps_below {B : Nat} {X Y : World} (h : Below X.heap.size X Y) : KeepsFrom B X Y := ⟨h.size, fun k o _ hk _ => (h.block k (Array.getElem?_eq_some_iff.1 hk).1).trans hk⟩
theorem kept_row {α : Type} {d : Kd α} {e base B : Nat} {v : Value} {xs : List α} {X Y : World} (h : Kd.R d e X base (fun _ => True) v xs) (hg : X.grownBy Y v.ownBlock) : KeepsFrom B X Y :=
  (KeepsOthers.of_grownBy hg fun j o ej hj => by
    obtain ⟨_, inner, ho, _⟩ := h
    obtain ⟨cells, hc⟩ := own_typed ho j ej
    rw [hc] at hj
    cases hj
    rfl).from B
theorem keeps_blk {B : Nat} {X Y : World} {g : Nat} {cs : Array Value} {t : TypeId} {f : Nat × Nat} (h : X.heap[g]? = some (.cells cs t f)) (hg : X.grownBy Y (some g)) : KeepsFrom B X Y :=
  (KeepsOthers.of_grownBy hg fun j o ej hj => by
    cases ej
    rw [h] at hj
    cases hj
    rfl).from B
/-- Those that are truths among what has come. -/
def right (M : Lm) (pre : List It) : List Ln := (pre.filter fun x => ((x.2.2.1 : Nat) : Int) ≤ M.wr).map (·.1)
theorem right_snoc (M : Lm) (pre : List It) (x : It) : right M (pre ++ [x]) = right M pre ++ (if ((x.2.2.1 : Nat) : Int) ≤ M.wr then [x.1] else []) := by
  unfold right
  rw [List.filter_append, List.map_append]
  congr 1
  by_cases h : ((x.2.2.1 : Nat) : Int) ≤ M.wr <;> simp [h]
theorem right_len (M : Lm) (pre : List It) : (right M pre).length ≤ pre.length := by
  unfold right
  rw [List.length_map]
  exact List.length_filter_le _ _
theorem right_all {M : Lm} : ∀ {pre : List It} {l : List Ln}, pre.map key = l.map (pk M) → right M pre = l.filter fun x => ((wrongs M x).length : Int) ≤ M.wr
  | [], [], _ => rfl
  | [], _ :: _, h => by simp at h
  | _ :: _, [], h => by simp at h
  | x :: pre, p :: l, h => by
    simp only [List.map_cons, List.cons.injEq] at h
    have ih := right_all h.2
    have h1 : x.1 = p := congrArg Prod.fst h.1
    have h2 : x.2.2.1 = (wrongs M p).length := congrArg Prod.snd h.1
    unfold right at ih ⊢
    by_cases k : ((wrongs M p).length : Int) ≤ M.wr
    · rw [List.filter_cons_of_pos (by simpa [h2] using k), List.filter_cons_of_pos (by simpa using k), List.map_cons, ih, h1]
    · rw [List.filter_cons_of_neg (by simpa [h2] using k), List.filter_cons_of_neg (by simpa using k), ih]
theorem info80t : (Try.prog.info? 80).map (fun i => (i.zero, i.size, i.bytes)) = some (some (.agg #[.int .i64 0, .int .i64 0]), 2, 16) := by kernel_rfl
set_option maxRecDepth 100000 in
theorem lit72 (p : Ln) (W : World) : (Instr.buildSlice 72 1 #[(0, pv p)]).run Try.prog W = .ok (.slice (some ⟨W.heap.size, 0, none⟩) 1 1) (W.alloc (.cells #[.int .i64 p.f0, .int .i64 p.f1] 80 (0, 0))) := by
  have hu72 := Try.underlying72
  go_simp
/-- What is made and stored whole: all that was there is as it was. -/
theorem new_stored {w wa wb : World} {g : Nat} (la : Below w.heap.size w wa) (hg : w.heap.size ≤ g) (lb : wa.grownBy wb (some g)) : Below w.heap.size w wb :=
  pw_below_grown la (some g) la.size lb (by rintro k ⟨⟩; exact hg)
set_option maxRecDepth 100000 in
set_option maxHeartbeats 8000000 in
theorem open_calls (M : Lm) (A : Option Addr) (c : Nat) (w : World) (hV : LampOk M) (hr : Kd.C k64 w A M.gs.length M.gs) :
    Calls Try.prog 46 #[lv M A c] w fun e w' => ∃ v, e = .returned v ∧ Kd.R kL 80 w' w.heap.size (fun _ => True) v (truths M) ∧ Below w.heap.size w w' := by
  have hu3 := Try.underlying3
  have hu26 := Try.underlying26
  have hu27 := Try.underlying27
  have hu72 := Try.underlying72
  have hu80 := Try.underlying80
  obtain ⟨z3, o3⟩ := info_some info3s (by decide)
  obtain ⟨z72, o72⟩ := info_some info72s (by decide)
  refine E.enterM (N := 19) 8 Try.func46 rfl Try.ntmps46 (args := [lv M A c]) (by simp) ?_
  have L := Below.refl w.heap.size w
  refine E.CI.seq (E.CI.wide ?_)
  refine E.CG.list ?_
  refine E.GL.st rfl rfl rfl (E.ST.box rfl rfl fun g1 w1 e1 b1 l1 => ?_)
  have h1 : w.heap.size ≤ g1 := by rw [e1]; exact Nat.le_refl _
  replace L := below_step L l1
  refine E.GL.st rfl rfl rfl (E.ST.allocZ rfl info72z rfl fun g2 w2 e2 b2 l2 => ?_)
  have h2 : w.heap.size ≤ g2 := by rw [e2]; exact L.size
  replace b1 := blk_below b1 l2
  replace L := below_step L l2
  refine E.GL.done ?_
  refine E.QG.codeI ?_
  refine E.CI.seq ?_
  refine E.CI.seq (E.CI.wide ?_)
  refine E.CG.list ?_
  refine E.GL.run rfl rfl rfl (E.Runs.loads (cs := lampC M A c) rfl rfl hu26 rfl info26s (blk_cells b1)) ?_
  refine E.GL.st rfl rfl rfl (E.ST.call rfl ent63 (E.evc rfl E.evn) ((lines_calls M A c _).mono ?_))
  rintro e w6 ⟨g, rfl, bg, hgn, l6⟩
  refine ⟨_, rfl, ?_⟩
  have hL2 := L.size
  replace b1 := blk_below b1 l6
  replace b2 := blk_below b2 l6
  replace L := below_step L l6
  have hgs : w.heap.size ≤ g := by omega
  have hg1 : g1 < w6.heap.size := blk_lt b1
  have hg2 : g2 < w6.heap.size := blk_lt b2
  have hgl : g < w6.heap.size := blk_lt bg
  have ne2 : g ≠ g2 := fun e => by subst e; rw [b2] at bg; cases bg
  have ne12 : g1 ≠ g2 := fun e => by subst e; rw [b2] at b1; cases b1
  refine E.GL.done ?_
  refine E.QG.codeI ?_
  refine E.CI.block ?_
  refine E.CI.range (γ := Nat) (Kp := Keep w g) (by decide) rfl ent70 (lines_stops M A c g _ w w6 hV L bg hr) (fun h k => ⟨h.1.trans k.1, k.2.trans h.2⟩)
    (fun W l o o' hl ho hc hw => ⟨belowK_b L.size W l o o' hl ho hc hw, World.putObj_heap_other (by omega)⟩) (Below.refl _ _) (fun _ => rfl)
    (fun pre W => ∃ v, W.heap[g2]? = some (.cells #[v] 72 (0, 0)) ∧ Kd.R kL 80 W w.heap.size (fun _ => True) v (right M pre) ∧ W.heap[g1]? = some (.cells (lampC M A c).toArray 26 (0, 0)) ∧ W.heap[g]? = some (.cells (lampC M A c).toArray 26 (0, 0)) ∧ Below w.heap.size w W ∧ w6.heap.size ≤ W.heap.size)
    (fun pre X Y row hi hg hrow => by
      obtain ⟨v, q1, q2, q3, q4, q5, q6⟩ := hi
      exact ⟨v, own_blk hg hrow q1, own_row hg hrow q2, own_blk hg hrow q3, own_blk hg hrow q4, own_below L.size hg hrow q5 q5.size, Nat.le_trans q6 hg.size⟩)
    ⟨_, b2, Kd.R_nil _ _ _ _ _, b1, bg, L, Nat.le_refl _⟩
    (fun x => (8, .slice x.2.1 x.2.2.1 x.2.2.2) :: (7, pv x.1) :: [(1, .pointer (some ⟨g1, 0, none⟩)), (2, .pointer (some ⟨g2, 0, none⟩))])
    (fun x a ha => by
      have ha' := ha.sub (E.subc (k := 1) (v := .pointer (some ⟨g1, 0, none⟩)) rfl (E.subc (k := 2) (v := .pointer (some ⟨g2, 0, none⟩)) rfl E.subn))
      obtain ⟨t, d⟩ := a
      obtain rfl : d = [] := ha.defers
      rw [show (#[7, 8].zip (itV x)).foldl (fun (t : Array Value) (p, v) => t.setIfInBounds p v) t = (t.setIfInBounds 7 (pv x.1)).setIfInBounds 8 (.slice x.2.1 x.2.2.1 x.2.2.2) from by simp [itV]]
      exact (ha'.put (n := 7) (pv x.1) (by decide)).put (n := 8) (.slice x.2.1 x.2.2.1 x.2.2.2) (by decide))
    (fun x g3 => [(1, .pointer (some ⟨g1, 0, none⟩)), (2, .pointer (some ⟨g2, 0, none⟩)), (3, .pointer (some ⟨g3, 0, none⟩)), (4, .slice x.2.1 x.2.2.1 x.2.2.2)])
    (fun x g3 W => W.heap[g3]? = some (.cells #[.int .i64 x.1.f0, .int .i64 x.1.f1] 80 (0, 0)) ∧ w6.heap.size ≤ g3)
    (fun x g3 _ X Y row hi hg hrow => ⟨own_blk hg hrow hi.1, hi.2⟩)
    (fun l pre x W K hi hK => ?_) (fun l pre x g3 W hi hx hlt => ?_) (fun D xs W hD hS hi hk => ?_)
  · -- the loop's variables
    obtain ⟨v, q1, q2, q3, q4, q5, q6⟩ := hi
    have hF := E.WF.wide.round l
    refine E.CI.seq ?_
    refine E.CI.list ?_
    refine E.GI.st rfl rfl rfl (E.SI.of hF rfl (E.ST.alloc rfl info80z fun g3 w3 e3 b3 l3 => ?_))
    refine E.GI.sn rfl rfl (E.SI.of hF rfl (E.ST.storeS (off := 0) (cells := [.int .i64 x.1.f0, .int .i64 x.1.f1]) rfl rfl rfl b3 rfl info80s (two_one _ _) rfl fun w4 c3 l4 => ?_))
    refine E.GI.done ?_
    refine E.QG.codeI ?_
    refine E.CI.list ?_
    refine E.GI.run hF rfl rfl rfl rfl (E.Runs.assign rfl rfl) ?_
    refine E.GI.done ?_
    have hW : Below W.heap.size W w4 := new_stored l3 (by rw [e3]; exact Nat.le_refl _) l4
    intro a' ha'
    refine hK g3 w4 (keeps_below hW) ⟨hW.mono q5.size, hW.block g (by omega)⟩ ⟨v, blk_below q1 hW, Kd.R_below q2 hW, blk_below q3 hW, blk_below q4 hW, below_step q5 hW, Nat.le_trans q6 hW.size⟩ ⟨c3, by omega⟩ a' ?_
    exact ha'.sub (E.subc rfl (E.subc rfl (E.subc rfl (E.subc rfl E.subn))))
  · -- a round
    obtain ⟨v, q1, q2, q3, q4, q5, q6⟩ := hi
    obtain ⟨b3, hg3⟩ := hx
    have hF := E.WF.wide.round l
    have hfew := pairs_few hV.1
    have hlen := right_len M pre
    refine E.CI.block ?_
    refine E.CI.seq ?_
    refine E.CI.list ?_
    refine E.GI.run hF rfl rfl rfl rfl (E.Runs.move rfl rfl) ?_
    refine E.GI.run hF rfl rfl rfl rfl (E.Runs.len rfl rfl hu27) ?_
    refine E.GI.run hF rfl rfl rfl rfl (E.Runs.fieldAddr rfl rfl hu26 rfl (by assumption) rfl) ?_
    refine E.GI.run hF rfl rfl rfl rfl (E.Runs.load rfl rfl hu3 (E.blkc q3 rfl)) ?_
    by_cases hle : ((x.2.2.1 : Nat) : Int) ≤ M.wr
    · refine E.GI.run hF rfl rfl rfl rfl (E.Runs.leq rfl rfl rfl (decide_eq_true hle)) ?_
      refine E.GI.done ?_
      refine E.QG.codeI ?_
      refine E.CI.cond_t rfl ?_
      refine E.CI.list ?_
      refine E.GI.run hF rfl rfl rfl rfl (E.Runs.load1 rfl rfl hu72 rfl (E.blkc q1 rfl)) ?_
      refine E.GI.run hF rfl rfl rfl rfl (E.Runs.loads (cs := [.int .i64 x.1.f0, .int .i64 x.1.f1]) rfl rfl hu80 rfl info80s (blk_cells b3)) ?_
      refine E.GI.st rfl rfl rfl (E.SI.of hF rfl (E.ST.lit rfl (E.epc rfl E.epn) (lit72 x.1) ?_))
      refine E.GI.st rfl rfl rfl (E.SI.of hF rfl (E.ST.append kL w.heap.size (w0 := w) (s := .tmp 14) (x := .tmp 16) rfl hu72 info80t rfl (by decide) (by decide) x.1 rfl rfl (k80_mkM _ _ _ _) (fun _ _ => trivial) q2 q5 q5.size (by omega) fun v1 wa r1 ka gr => ?_))
      obtain ⟨A1, c1, hv1⟩ := Kd.R_slice r1
      subst hv1
      have p1 := blk_grown q1 gr (Kd.R_ne q2 q1 (by decide))
      have p3 := blk_grown q3 gr (Kd.R_ne q2 q3 (by decide))
      have p4 := blk_grown q4 gr (Kd.R_ne q2 q4 (by decide))
      have kb : Below w.heap.size W wa := (Below.refl _ W).grown gr q5.size (fun k e => Kd.R_base q2 k e)
      refine E.GI.sn rfl rfl (E.SI.of hF rfl (E.ST.storeSl (cs := [v]) rfl z72 o72 rfl rfl p1 rfl rfl fun wb p1b gb => ?_))
      have p3b := blk_grown p3 gb (E.nes (fun e => ne12 e))
      have p4b := blk_grown p4 gb (E.nes (fun e => ne2 e))
      have r1b := Kd.R_grown1 r1 rfl gb (Kd.R_ne r1 p1 (by decide))
      have kbb : Below w.heap.size wa wb := (Below.refl _ wa).grown gb ka.size (fun k e => by cases e; exact h2)
      refine E.GI.done ?_
      refine E.QG.block_normal ?_
      intro a' ha'
      refine ⟨(kept_row q2 gr).trans (keeps_blk p1 gb), ⟨kb.trans kbb, p4b.trans q4.symm⟩, _, p1b, ?_, p3b, p4b, ka.trans kbb, Nat.le_trans q6 (Nat.le_trans kb.size kbb.size)⟩
      rw [right_snoc, if_pos hle]
      exact r1b
    · refine E.GI.run hF rfl rfl rfl rfl (E.Runs.leq rfl rfl rfl (decide_eq_false hle)) ?_
      refine E.GI.done ?_
      refine E.QG.codeI ?_
      refine E.CI.cond_f rfl ?_
      refine E.CI.skip ?_
      refine E.QG.block_normal ?_
      intro a' ha'
      exact ⟨KeepsFrom.refl _ _, ⟨Below.refl _ _, rfl⟩, v, q1, by rw [right_snoc, if_neg hle, List.append_nil]; exact q2, q3, q4, q5, q6⟩
  · -- behind the loop
    obtain ⟨v, q1, q2, q3, q4, q5, q6⟩ := hi
    obtain ⟨A1, c1, hv1⟩ := Kd.R_slice q2
    subst hv1
    refine E.QD.block_normal ?_
    refine E.QD.codeI ?_
    refine E.CD.seq ?_
    refine E.CD.list ?_
    refine E.GD.run E.WF.wide rfl rfl rfl rfl (E.Runs.load1 rfl rfl hu72 rfl (E.blkc q1 rfl)) ?_
    refine E.GD.sn E.WF.wide rfl rfl rfl (E.Writes.sl rfl z72 o72 rfl rfl q1 rfl) ?_
    refine E.GD.done ?_
    refine E.QD.codeI ?_
    refine E.CD.ret ?_
    have q1' := blk_set q1 0 (.slice A1 (right M xs).length c1)
    have q2' := Kd.R_set q2 q1 (by decide) 0 (.slice A1 (right M xs).length c1)
    have hk' : (W.setCell ⟨g2, 0, none⟩ (.slice A1 (right M xs).length c1)).heap[D]? = some (.deferred (some [])) := (Below.heap_setCell W _ _ D (fun e => by subst e; rw [q1] at hk; cases hk)).trans hk
    have hB' : Below w.heap.size w (W.setCell ⟨g2, 0, none⟩ (.slice A1 (right M xs).length c1)) := q5.grown (gb_set (World.grownBy.refl W (some g2)) (.inr rfl) _) q5.size (fun k e => by cases e; exact h2)
    have hD2 : w6.heap.size ≤ D := hD
    have hrow : ∀ r, some D = some r → w6.heap.size ≤ r ∧ ∃ o : Obj, (W.setCell ⟨g2, 0, none⟩ (.slice A1 (right M xs).length c1)).heap[r]? = some o ∧ o.isCells = false := fun r e => by cases e; exact ⟨hD2, _, hk', rfl⟩
    refine E.QD.result_sl hk' rfl rfl q1' hu72 ⟨_, rfl, ?_, ?_⟩
    · have := own_row (grownBy_putObj' _ D (.deferred none)) hrow q2'
      rw [show truths M = right M xs from (right_all hS).symm]
      exact this
    · exact own_below L.size (grownBy_putObj' _ D (.deferred none)) hrow hB' hB'.size
end Go.Proofs.Ytbajpjnloikpdaa.T
