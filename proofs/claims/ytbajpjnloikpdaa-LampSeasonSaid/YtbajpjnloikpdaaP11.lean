/- The chapter's examples: the walk of works. -/
import Derived.Test.YtbajpjnloikpdaaP10
import Derived.Laws.StructEq
namespace Go.Proofs.Ytbajpjnloikpdaa.T
open Go.RowKit Go.Proofs.YtbajpjnloikpdaaW.PrintWords Go.Proofs.YtbajpjnloikpdaaW.PrintMore
open Go.Proofs.Ytbajpjnloikpdaa.P
set_option linter.unusedVariables false
set_option linter.unusedSimpArgs false

set_option maxRecDepth 100000 in
theorem equal23 (a b : Int) (W : World) : (Op.equal 23 (.agg #[.int .i64 a, .int .i64 b]) (.agg #[.int .i64 a, .int .i64 b])).run Try.prog W = .ok true W := by
  have hu3 := Try.underlying3
  have hu23 := Try.underlying23
  have h23 := Try.stoodInHeld23
  unfold Op.equal Op.maxDepth
  go_simp
theorem eM_ok : LampOk eM := by decide
theorem eM_truths : truths eM = [⟨100, 3⟩, ⟨101, 3⟩, ⟨104, 4⟩] := rfl
theorem eM_ask3 : askE eM 3 = 0 := by decide
theorem eM_ask12 : askE eM 12 = 0 := by decide
theorem eM_many : manyV eM = 3 := by decide
theorem eM_at : atV eM 12 = (56, 65) := by decide
theorem lastT_val {so : Int → Prop} {f bd r : Int} (h1 : f ≤ r) (h2 : r ≤ bd) (h0 : 0 ≤ f) (h3 : ∀ k : Nat, (k : Int) < r - f + 1 → so (f + k)) (h4 : r < bd → ¬ so (r + 1)) : lastT so f bd = r := by
  have h5 : ∀ x, f ≤ x → x ≤ r → so x := fun x k1 k2 => by
    have := h3 (x - f).toNat (by omega)
    rwa [show f + ((x - f).toNat : Int) = x by omega] at this
  rcases lastT_spec (so := so) (f := f) (bd := bd) with ⟨e, k⟩ | ⟨a, b, c, d⟩
  · exact absurd (h5 f (by omega) h1) (k (by omega))
  · apply Classical.byContradiction
    intro ne
    rcases Int.lt_or_gt_of_ne ne with q | q
    · exact d (by omega) (h5 _ (by omega) (by omega))
    · exact h4 (by omega) (c _ (by omega) (by omega))
theorem lastT_no {so : Int → Prop} {f bd : Int} (h : f ≤ bd → ¬ so f) : lastT so f bd = -1 := by
  rcases lastT_spec (so := so) (f := f) (bd := bd) with ⟨e, k⟩ | ⟨a, b, c, d⟩
  · exact e
  · exact absurd (c f (by omega) a) (h (by omega))
theorem below_all {p : Nat → Prop} {n : Nat} {m : Int} (h : ∀ k : Nat, k < n → p k) (e : m = n) : ∀ k : Nat, (k : Int) < m → p k := fun k hk => h k (by omega)
theorem eM_until : untilV eM 3 = (11, 12) := by
  unfold untilV
  rw [if_pos eM_ask3, eM_truths]
  have e1 : sureT 60 110 3 12 [⟨100, 3⟩, ⟨101, 3⟩, ⟨104, 4⟩] = 11 := lastT_val (by decide) (by decide) (by decide) (below_all (n := 9) (by decide) (by decide)) (fun _ => by decide)
  have a1 : lastT (isK 60 110 ⟨100, 3⟩) 3 12 = 12 := lastT_val (by decide) (by decide) (by decide) (below_all (n := 10) (by decide) (by decide)) (fun h => absurd h (by decide))
  have a2 : lastT (isK 60 110 ⟨101, 3⟩) 3 12 = 12 := lastT_val (by decide) (by decide) (by decide) (below_all (n := 10) (by decide) (by decide)) (fun h => absurd h (by decide))
  have a3 : lastT (isK 60 110 ⟨104, 4⟩) 3 12 = 11 := lastT_val (by decide) (by decide) (by decide) (below_all (n := 9) (by decide) (by decide)) (fun _ => by decide)
  have e2 : mayT 60 110 3 12 [⟨100, 3⟩, ⟨101, 3⟩, ⟨104, 4⟩] = 12 := by
    unfold mayT
    simp only [List.foldl_cons, List.foldl_nil, a1, a2, a3]
    decide
  show (sureT 60 110 3 12 _, mayT 60 110 3 12 _) = _
  rw [e1, e2]
theorem show_nat {a b ra : Int} {t : List Ln} {bu ho : Int} : showT a b ra t bu ho ↔ 0 < t.length ∧ bu + ho ≤ ra ∧ ∀ k : Nat, k < (ho + 1).toNat → keepsT a b t (bu + k) = 1 := by
  unfold showT
  refine and_congr_right fun _ => and_congr_right fun _ => ⟨fun k j hj => k _ (by omega) (by omega), fun k h h1 h2 => ?_⟩
  have := k (h - bu).toNat (by omega)
  rwa [show bu + ((h - bu).toNat : Int) = h by omega] at this
instance (a b ra : Int) (t : List Ln) (bu ho : Int) : Decidable (showT a b ra t bu ho) := decidable_of_iff _ show_nat.symm
theorem eM_changes : chgR eM 4 [5, 3, 5, 4] = some [1, 3] := by
  unfold chgR
  rw [eM_truths, show eM.nl = 60 from rfl, show eM.nh = 110 from rfl, show eM.ra = 12 from rfl]
  rw [chg_cons, if_neg (by decide), if_pos (by decide), chg_cons, if_neg (by decide), if_neg (by decide), chg_cons, if_neg (by decide), if_pos (by decide), chg_cons, if_neg (by decide), if_neg (by decide)]
  rfl
theorem eM_days : daysE eM 4 [5, 3, 5, 4] = 0 := by decide
set_option maxRecDepth 100000 in
theorem lit27_4 (W : World) : (Instr.buildSlice 27 4 #[(0, .int .i64 5), (1, .int .i64 3), (2, .int .i64 5), (3, .int .i64 4)]).run Try.prog W = .ok (.slice (some ⟨W.heap.size, 0, none⟩) 4 4) (W.alloc (.cells #[.int .i64 5, .int .i64 3, .int .i64 5, .int .i64 4] 3 (0, 0))) := by
  have hu27 := Try.underlying27
  go_simp
set_option maxRecDepth 100000 in
theorem lit27_2 (W : World) : (Instr.buildSlice 27 2 #[(0, .int .i64 1), (1, .int .i64 3)]).run Try.prog W = .ok (.slice (some ⟨W.heap.size, 0, none⟩) 2 2) (W.alloc (.cells #[.int .i64 1, .int .i64 3] 3 (0, 0))) := by
  have hu27 := Try.underlying27
  go_simp
/-- Whole numbers written out, in a block of ours. -/
theorem C_nums {w : World} {g : Nat} (l : List Int) (hb : w.heap[g]? = some (.cells (l.map (Value.int .i64)).toArray 3 (0, 0))) (hn : l.length ≤ 1000000) : Kd.C kI w (some ⟨g, 0, none⟩) l.length l := by
  refine ⟨rfl, by omega, fun _ => ⟨_, rfl, ?_⟩⟩
  intro j p hj
  refine ⟨[.int .i64 p], rfl, rfl, fun i u hu => ?_⟩
  have hi : i < 1 := (List.getElem?_eq_some_iff.1 hu).1
  obtain rfl : i = 0 := by omega
  cases hu
  rw [Addr.add_mid, blk_cell hb]
  simp [hj, show kI.sz = 1 from rfl]
set_option maxRecDepth 100000 in
set_option maxHeartbeats 8000000 in

theorem example_calls (w : World) :
    Calls Try.prog 42 #[] w fun e w' => ∃ A c, e = .returned (lv eM A c) ∧ Kd.C k64 w' A 2 eM.gs ∧ Below w.heap.size w w' := by
  have hu26 := Try.underlying26
  refine E.enter (N := 8) Try.func42 rfl Try.ntmps42 (args := []) (by simp) ?_
  have L := Below.refl w.heap.size w
  refine E.CG.seq ?_
  refine E.CG.list ?_
  refine E.GL.st rfl rfl rfl (E.ST.alloc rfl info26z fun g0 w0 e0 b0 l0 => ?_)
  have h0_L : w.heap.size ≤ g0 := by rw [e0]; exact L.size
  replace L := below_step L l0
  refine E.GL.done ?_
  refine E.QG.code ?_
  refine E.CG.seq ?_
  refine E.CG.list ?_
  refine E.GL.run rfl rfl rfl (E.Runs.build rfl (E.epc rfl (E.epc rfl E.epn)) (build23 _ _)) ?_
  refine E.GL.run rfl rfl rfl (E.Runs.build rfl (E.epc rfl (E.epc rfl E.epn)) (build23 _ _)) ?_
  refine E.GL.run rfl rfl rfl (E.Runs.build rfl (E.epc rfl (E.epc rfl E.epn)) (build23 _ _)) ?_
  refine E.GL.run rfl rfl rfl (E.Runs.build rfl (E.epc rfl (E.epc rfl (E.epc rfl E.epn))) (build64 _ _ _)) ?_
  refine E.GL.run rfl rfl rfl (E.Runs.build rfl (E.epc rfl (E.epc rfl (E.epc rfl E.epn))) (build64 _ _ _)) ?_
  refine E.GL.st rfl rfl rfl (E.ST.lit (cs := (three ⟨5, 84, 92⟩ ++ three ⟨10, 60, 71⟩).toArray) rfl (E.epc rfl (E.epc rfl E.epn)) (lit24 ⟨5, 84, 92⟩ ⟨10, 60, 71⟩) ?_)
  obtain ⟨w6, e6, l6, b6⟩ : ∃ w6, w6 = w0.alloc (.cells (three ⟨5, 84, 92⟩ ++ three ⟨10, 60, 71⟩).toArray 64 (0, 0)) ∧ Below w0.heap.size w0 w6 ∧ w6.heap[w0.heap.size]? = some (.cells (three ⟨5, 84, 92⟩ ++ three ⟨10, 60, 71⟩).toArray 64 (0, 0)) := ⟨_, rfl, below_alloc (Below.refl _ _) _, blk_new _ _⟩
  rw [← e6]
  have n6 : w0.heap.size ≠ g0 := by have := blk_lt b0; omega
  replace b0 := blk_below b0 l6
  replace L := below_step L l6
  refine E.GL.run rfl rfl rfl (E.Runs.build rfl (E.epc rfl (E.epc rfl (E.epc rfl (E.epc rfl (E.epc rfl E.epn))))) (build26 _ _ _ _ _ _ _ _ _ _)) ?_
  refine E.GL.store_whole rfl rfl rfl rfl rfl b0 rfl info26s (nine_one _ _ _ _ _ _ _ _ _ _ _) fun wS1_7 c0 lS1_7 => ?_
  replace L := E.below_own L h0_L lS1_7
  replace b0 := c0
  clear c0
  have C3 := C_two _ _ (blk_grown b6 lS1_7 (E.nes n6))
  refine E.GL.done ?_
  refine E.QG.code ?_
  refine E.CG.ret ?_
  exact E.QG.result_c rfl rfl b0 hu26 rfl info26s ⟨_, _, rfl, C3, L⟩

set_option maxRecDepth 100000 in
set_option maxHeartbeats 8000000 in

theorem works_calls (w : World) :
    Calls Try.prog 13 #[] w fun e w' => e = .returned (.bool true) ∧ Below w.heap.size w w' := by
  have hu3 := Try.underlying3
  have hu23 := Try.underlying23
  have hu26 := Try.underlying26
  have hu27 := Try.underlying27
  refine E.enter (N := 70) Try.func13 rfl Try.ntmps13 (args := []) (by simp) ?_
  have L := Below.refl w.heap.size w
  refine E.CG.seq ?_
  refine E.CG.list ?_
  refine E.GL.run rfl rfl rfl (E.Runs.assign rfl rfl) ?_
  refine E.GL.done ?_
  refine E.QG.code ?_
  refine E.CG.seq ?_
  refine E.CG.list ?_
  refine E.GL.st rfl rfl rfl (E.ST.call rfl ent42 E.evn ((example_calls _).mono ?_))
  rintro e w11 ⟨A, c, rfl, hC, l11⟩
  refine ⟨_, rfl, ?_⟩
  replace L := below_step L l11
  have lo := Below.refl w11.heap.size w11
  refine E.GL.st rfl rfl rfl (E.ST.alloc rfl info26z fun g1 w1 e1 b1 l1 => ?_)
  have h1_L : w.heap.size ≤ g1 := by rw [e1]; exact L.size
  have h1_lo : w11.heap.size ≤ g1 := by rw [e1]; exact lo.size
  replace L := below_step L l1
  replace lo := below_step lo l1
  refine E.GL.store_whole rfl rfl rfl rfl rfl b1 rfl info26s (nine_one _ _ _ _ _ _ _ _ _ _ _) fun wS1_2 c1 lS1_2 => ?_
  replace L := E.below_own L h1_L lS1_2
  replace lo := E.below_own lo h1_lo lS1_2
  replace b1 := c1
  clear c1
  refine E.GL.done ?_
  refine E.QG.code ?_
  refine E.CG.seq ?_
  refine E.CG.list ?_
  refine E.GL.run rfl rfl rfl (E.Runs.loads (cs := [.int .i64 100, .int .i64 104, .int .i64 2, .int .i64 4, .int .i64 60, .int .i64 110, .int .i64 12, .slice A 2 c, .int .i64 0]) rfl rfl hu26 rfl info26s (blk_cells b1)) ?_
  refine E.GL.st rfl rfl rfl (E.ST.call rfl ent33 (E.evc rfl E.evn) ((many_calls eM A c _ (Kd.C_below hC lo) (by decide)).mono ?_))
  rintro e w14 ⟨rfl, l14⟩
  refine ⟨_, rfl, ?_⟩
  replace b1 := blk_below b1 l14
  replace L := below_step L l14
  replace lo := below_step lo l14
  rw [eM_many, checkE_yes eM_ok]
  refine E.GL.run rfl rfl rfl (E.Runs.move rfl rfl) ?_
  refine E.GL.run rfl rfl rfl (E.Runs.extract rfl rfl rfl) ?_
  refine E.GL.run rfl rfl rfl (E.Runs.extract rfl rfl rfl) ?_
  refine E.GL.run rfl rfl rfl (E.Runs.assign rfl rfl) ?_
  refine E.GL.run rfl rfl rfl (E.Runs.assign rfl rfl) ?_
  refine E.GL.done ?_
  refine E.QG.code ?_
  refine E.CG.seq ?_
  refine E.CG.list ?_
  refine E.GL.run rfl rfl rfl (E.Runs.loads (cs := [.int .i64 100, .int .i64 104, .int .i64 2, .int .i64 4, .int .i64 60, .int .i64 110, .int .i64 12, .slice A 2 c, .int .i64 0]) rfl rfl hu26 rfl info26s (blk_cells b1)) ?_
  refine E.GL.st rfl rfl rfl (E.ST.call rfl ent20 (E.evc rfl (E.evc rfl E.evn)) ((at_calls eM A c 12 _ (Kd.C_below hC lo) (by decide)).mono ?_))
  rintro e w19 ⟨rfl, l19⟩
  refine ⟨_, rfl, ?_⟩
  replace b1 := blk_below b1 l19
  replace L := below_step L l19
  replace lo := below_step lo l19
  rw [eM_at, eM_ask12]
  refine E.GL.run rfl rfl rfl (E.Runs.move rfl rfl) ?_
  refine E.GL.run rfl rfl rfl (E.Runs.extract rfl rfl rfl) ?_
  refine E.GL.run rfl rfl rfl (E.Runs.extract rfl rfl rfl) ?_
  refine E.GL.st rfl rfl rfl (E.ST.alloc rfl info23z fun g4 w4 e4 b4 l4 => ?_)
  have h4_L : w.heap.size ≤ g4 := by rw [e4]; exact L.size
  have h4_lo : w11.heap.size ≤ g4 := by rw [e4]; exact lo.size
  have n4_b1 : g1 ≠ g4 := by have := blk_lt b1; omega
  replace b1 := blk_below b1 l4
  replace L := below_step L l4
  replace lo := below_step lo l4
  refine E.GL.store_whole rfl rfl rfl rfl rfl b4 rfl info23s (two_one _ _) fun wS3_6 c4 lS3_6 => ?_
  replace b1 := blk_grown b1 lS3_6 (E.nes (by first | assumption | exact Ne.symm (by assumption)))
  replace L := E.below_own L h4_L lS3_6
  replace lo := E.below_own lo h4_lo lS3_6
  replace b4 := c4
  clear c4
  refine E.GL.run rfl rfl rfl (E.Runs.assign rfl rfl) ?_
  refine E.GL.done ?_
  refine E.QG.code ?_
  refine E.CG.seq ?_
  refine E.CG.list ?_
  refine E.GL.run rfl rfl rfl (E.Runs.loads (cs := [.int .i64 100, .int .i64 104, .int .i64 2, .int .i64 4, .int .i64 60, .int .i64 110, .int .i64 12, .slice A 2 c, .int .i64 0]) rfl rfl hu26 rfl info26s (blk_cells b1)) ?_
  refine E.GL.st rfl rfl rfl (E.ST.call rfl ent21 (E.evc rfl (E.evc rfl E.evn)) ((until_calls eM A c 3 _ (Kd.C_below hC lo) (by decide)).mono ?_))
  rintro e w24 ⟨rfl, l24⟩
  refine ⟨_, rfl, ?_⟩
  replace b1 := blk_below b1 l24
  replace b4 := blk_below b4 l24
  replace L := below_step L l24
  replace lo := below_step lo l24
  rw [eM_until, eM_ask3]
  refine E.GL.run rfl rfl rfl (E.Runs.move rfl rfl) ?_
  refine E.GL.run rfl rfl rfl (E.Runs.extract rfl rfl rfl) ?_
  refine E.GL.run rfl rfl rfl (E.Runs.extract rfl rfl rfl) ?_
  refine E.GL.run rfl rfl rfl (E.Runs.extract rfl rfl rfl) ?_
  refine E.GL.run rfl rfl rfl (E.Runs.assign rfl rfl) ?_
  refine E.GL.run rfl rfl rfl (E.Runs.assign rfl rfl) ?_
  refine E.GL.run rfl rfl rfl (E.Runs.assign rfl rfl) ?_
  refine E.GL.done ?_
  refine E.QG.code ?_
  refine E.CG.seq ?_
  refine E.CG.list ?_
  refine E.GL.run rfl rfl rfl (E.Runs.loads (cs := [.int .i64 100, .int .i64 104, .int .i64 2, .int .i64 4, .int .i64 60, .int .i64 110, .int .i64 12, .slice A 2 c, .int .i64 0]) rfl rfl hu26 rfl info26s (blk_cells b1)) ?_
  refine E.GL.st rfl rfl rfl (E.ST.litB (cs := (([5, 3, 5, 4] : List Int).map (Value.int .i64)).toArray) rfl (E.epc rfl (E.epc rfl (E.epc rfl (E.epc rfl E.epn)))) lit27_4 fun g30 w30 e30 b30 l30 => ?_)
  have h30_L : w.heap.size ≤ g30 := by rw [e30]; exact L.size
  have h30_lo : w11.heap.size ≤ g30 := by rw [e30]; exact lo.size
  have n30_b1 : g1 ≠ g30 := by have := blk_lt b1; omega
  have n30_b4 : g4 ≠ g30 := by have := blk_lt b4; omega
  replace b1 := blk_below b1 l30
  replace b4 := blk_below b4 l30
  replace L := below_step L l30
  replace lo := below_step lo l30
  refine E.GL.st rfl rfl rfl (E.ST.call rfl ent14 (E.evc rfl (E.evc rfl (E.evc rfl E.evn))) ((changes_calls eM A _ c 4 4 [5, 3, 5, 4] _ (Kd.C_below hC lo) (by decide) (C_nums [5, 3, 5, 4] b30 (by decide)) (by decide)).mono ?_))
  rintro e w31 ⟨v31, rfl, R31, l31⟩
  refine ⟨_, rfl, ?_⟩
  replace b1 := blk_below b1 l31
  replace b4 := blk_below b4 l31
  replace b30 := blk_below b30 l31
  replace L := below_step L l31
  replace lo := below_step lo l31
  rw [(chg_some eM_days eM_changes).2] at R31
  rw [(chg_some eM_days eM_changes).1]
  obtain ⟨A31, c31, hv31⟩ := Kd.R_slice R31
  subst hv31
  obtain ⟨_, _, C31⟩ := Kd.R_reads' R31
  refine E.GL.run rfl rfl rfl (E.Runs.move rfl rfl) ?_
  refine E.GL.run rfl rfl rfl (E.Runs.extract rfl rfl rfl) ?_
  refine E.GL.run rfl rfl rfl (E.Runs.extract rfl rfl rfl) ?_
  refine E.GL.run rfl rfl rfl (E.Runs.assign rfl rfl) ?_
  refine E.GL.run rfl rfl rfl (E.Runs.assign rfl rfl) ?_
  refine E.GL.done ?_
  refine E.QG.code ?_
  refine E.CG.seq ?_
  refine E.CG.list ?_
  refine E.GL.run rfl rfl rfl (E.Runs.move rfl rfl) ?_
  refine E.GL.run rfl rfl rfl (E.Runs.eql rfl rfl rfl (decide_eq_true rfl)) ?_
  refine E.GL.run rfl rfl rfl (E.Runs.move rfl rfl) ?_
  refine E.GL.run rfl rfl rfl (E.Runs.move rfl rfl) ?_
  refine E.GL.run rfl rfl rfl (E.Runs.eql rfl rfl rfl (decide_eq_true rfl)) ?_
  refine E.GL.run rfl rfl rfl (E.Runs.pick_t rfl rfl rfl) ?_
  refine E.GL.run rfl rfl rfl (E.Runs.move rfl rfl) ?_
  refine E.GL.run rfl rfl rfl (E.Runs.move rfl rfl) ?_
  refine E.GL.run rfl rfl rfl (E.Runs.eql rfl rfl rfl (decide_eq_true rfl)) ?_
  refine E.GL.run rfl rfl rfl (E.Runs.pick_t rfl rfl rfl) ?_
  refine E.GL.run rfl rfl rfl (E.Runs.move rfl rfl) ?_
  refine E.GL.run rfl rfl rfl (E.Runs.move rfl rfl) ?_
  refine E.GL.run rfl rfl rfl (E.Runs.eql rfl rfl rfl (decide_eq_true rfl)) ?_
  refine E.GL.run rfl rfl rfl (E.Runs.pick_t rfl rfl rfl) ?_
  refine E.GL.run rfl rfl rfl (E.Runs.move rfl rfl) ?_
  refine E.GL.run rfl rfl rfl (E.Runs.move rfl rfl) ?_
  refine E.GL.run rfl rfl rfl (E.Runs.eql rfl rfl rfl (decide_eq_true rfl)) ?_
  refine E.GL.run rfl rfl rfl (E.Runs.pick_t rfl rfl rfl) ?_
  refine E.GL.run rfl rfl rfl (E.Runs.move rfl rfl) ?_
  refine E.GL.run rfl rfl rfl (E.Runs.loads (cs := [.int .i64 56, .int .i64 65]) rfl rfl hu23 rfl info23s (blk_cells b4)) ?_
  refine E.GL.run rfl rfl rfl (E.Runs.build rfl (E.epc rfl (E.epc rfl E.epn)) (build23 _ _)) ?_
  refine E.GL.run rfl rfl rfl (E.Runs.eqlv rfl rfl rfl rfl (fun _ _ W => run_eqGuard_agg W _ _ _ _ _ _ Try.eqGuardType23) (equal23 _ _)) ?_
  refine E.GL.run rfl rfl rfl (E.Runs.pick_t rfl rfl rfl) ?_
  refine E.GL.run rfl rfl rfl (E.Runs.move rfl rfl) ?_
  refine E.GL.run rfl rfl rfl (E.Runs.move rfl rfl) ?_
  refine E.GL.run rfl rfl rfl (E.Runs.eql rfl rfl rfl (decide_eq_true rfl)) ?_
  refine E.GL.run rfl rfl rfl (E.Runs.pick_t rfl rfl rfl) ?_
  refine E.GL.run rfl rfl rfl (E.Runs.move rfl rfl) ?_
  refine E.GL.run rfl rfl rfl (E.Runs.move rfl rfl) ?_
  refine E.GL.run rfl rfl rfl (E.Runs.eql rfl rfl rfl (decide_eq_true rfl)) ?_
  refine E.GL.run rfl rfl rfl (E.Runs.pick_t rfl rfl rfl) ?_
  refine E.GL.run rfl rfl rfl (E.Runs.move rfl rfl) ?_
  refine E.GL.run rfl rfl rfl (E.Runs.move rfl rfl) ?_
  refine E.GL.st rfl rfl rfl (E.ST.litB (cs := (([1, 3] : List Int).map (Value.int .i64)).toArray) rfl (E.epc rfl (E.epc rfl E.epn)) lit27_2 fun g67 w67 e67 b67 l67 => ?_)
  have h67_L : w.heap.size ≤ g67 := by rw [e67]; exact L.size
  have h67_lo : w11.heap.size ≤ g67 := by rw [e67]; exact lo.size
  have n67_b1 : g1 ≠ g67 := by have := blk_lt b1; omega
  have n67_b4 : g4 ≠ g67 := by have := blk_lt b4; omega
  have n67_b30 : g30 ≠ g67 := by have := blk_lt b30; omega
  replace b1 := blk_below b1 l67
  replace b4 := blk_below b4 l67
  replace b30 := blk_below b30 l67
  replace L := below_step L l67
  replace lo := below_step lo l67
  refine E.GL.st rfl rfl rfl (E.ST.call rfl ent17 (E.evc rfl (E.evc rfl E.evn)) ((same_calls [1, 3] [1, 3] A31 _ c31 2 _ true (by simp) (Kd.C_below C31 l67) (C_nums [1, 3] b67 (by decide)) (by decide)).mono ?_))
  rintro e w68 ⟨rfl, l68⟩
  refine ⟨_, rfl, ?_⟩
  replace b1 := blk_below b1 l68
  replace b4 := blk_below b4 l68
  replace b30 := blk_below b30 l68
  replace b67 := blk_below b67 l68
  replace L := below_step L l68
  replace lo := below_step lo l68
  refine E.GL.run rfl rfl rfl (E.Runs.pick_t rfl rfl rfl) ?_
  refine E.GL.run rfl rfl rfl (E.Runs.assign rfl rfl) ?_
  refine E.GL.done ?_
  refine E.QG.code ?_
  refine E.CG.ret ?_
  exact E.QG.result rfl rfl ⟨rfl, L⟩

end Go.Proofs.Ytbajpjnloikpdaa.T
