/- What is valid: the walks of both texts. -/
import Derived.Test.YthdbkhdiaehblaaU1
namespace Go.Proofs.Ythdbkhdiaehblaa.T
open Go.RowKit Go.Proofs.YthdbkhdiaehblaaW.PrintWords Go.Proofs.YthdbkhdiaehblaaW.PrintMore
open Go.Proofs.Ythdbkhdiaehblaa.P
set_option linter.unusedVariables false

theorem within_o (n lo hi : Int) (b : Bool) (h : b = true ↔ lo ≤ n ∧ n ≤ hi) (w : World) :
    Calls Try.prog 52 #[.int .i64 n, .int .i64 lo, .int .i64 hi] w fun e w' => e = .returned (.bool b) ∧ Below w.heap.size w w' := by
  refine E.enter (N := 15) Try.func52 rfl Try.ntmps52 (args := [.int .i64 n, .int .i64 lo, .int .i64 hi]) (by simp) ?_
  have L := Below.refl w.heap.size w
  refine E.CG.seq ?_
  refine E.CG.list ?_
  refine E.GL.run rfl rfl rfl (E.Runs.assign rfl rfl) ?_
  refine E.GL.done ?_
  refine E.QG.code ?_
  refine E.CG.seq ?_
  refine E.CG.list ?_
  refine E.GL.run rfl rfl rfl (E.Runs.move rfl rfl) ?_
  refine E.GL.run rfl rfl rfl (E.Runs.move rfl rfl) ?_
  refine E.GL.cmp rfl rfl rfl (fun _ h => (E.Runs.leq rfl rfl rfl h)) (fun h9 => ?_) (fun h9 => ?_)
  · refine E.GL.run rfl rfl rfl (E.Runs.move rfl rfl) ?_
    refine E.GL.run rfl rfl rfl (E.Runs.move rfl rfl) ?_
    refine E.GL.run rfl rfl rfl (E.Runs.move rfl rfl) ?_
    refine E.GL.cmp rfl rfl rfl (fun _ h => (E.Runs.leq rfl rfl rfl h)) (fun h13 => ?_) (fun h13 => ?_)
    · refine E.GL.run rfl rfl rfl (E.Runs.pick_t rfl rfl rfl) ?_
      refine E.GL.run rfl rfl rfl (E.Runs.assign rfl rfl) ?_
      refine E.GL.done ?_
      refine E.QG.code ?_
      refine E.CG.ret ?_
      exact E.QG.result rfl rfl ⟨congrArg (fun x => Ending.returned (Value.bool x)) (by first | exact (h.mpr (by omega)).symm | exact (Bool.eq_false_iff.mpr fun e => by have := h.mp e; omega).symm), L⟩
    · refine E.GL.run rfl rfl rfl (E.Runs.pick_t rfl rfl rfl) ?_
      refine E.GL.run rfl rfl rfl (E.Runs.assign rfl rfl) ?_
      refine E.GL.done ?_
      refine E.QG.code ?_
      refine E.CG.ret ?_
      exact E.QG.result rfl rfl ⟨congrArg (fun x => Ending.returned (Value.bool x)) (by first | exact (h.mpr (by omega)).symm | exact (Bool.eq_false_iff.mpr fun e => by have := h.mp e; omega).symm), L⟩
  · refine E.GL.run rfl rfl rfl (E.Runs.move rfl rfl) ?_
    refine E.GL.skip rfl rfl rfl ?_
    refine E.GL.skip rfl rfl rfl ?_
    refine E.GL.skip rfl rfl rfl ?_
    refine E.GL.run rfl rfl rfl (E.Runs.pick_f rfl rfl rfl) ?_
    refine E.GL.run rfl rfl rfl (E.Runs.assign rfl rfl) ?_
    refine E.GL.done ?_
    refine E.QG.code ?_
    refine E.CG.ret ?_
    exact E.QG.result rfl rfl ⟨congrArg (fun x => Ending.returned (Value.bool x)) (by first | exact (h.mpr (by omega)).symm | exact (Bool.eq_false_iff.mpr fun e => by have := h.mp e; omega).symm), L⟩

theorem within_row (n lo hi : Int) (b : Bool) (h : b = true ↔ lo ≤ n ∧ n ≤ hi) (w : World) :
    Calls Try.prog 44 #[.int .i64 n, .int .i64 lo, .int .i64 hi] w fun e w' => e = .returned (.bool b) ∧ Below w.heap.size w w' := by
  refine E.enter (N := 15) Try.func44 rfl Try.ntmps44 (args := [.int .i64 n, .int .i64 lo, .int .i64 hi]) (by simp) ?_
  have L := Below.refl w.heap.size w
  refine E.CG.seq ?_
  refine E.CG.list ?_
  refine E.GL.run rfl rfl rfl (E.Runs.assign rfl rfl) ?_
  refine E.GL.done ?_
  refine E.QG.code ?_
  refine E.CG.seq ?_
  refine E.CG.list ?_
  refine E.GL.run rfl rfl rfl (E.Runs.move rfl rfl) ?_
  refine E.GL.run rfl rfl rfl (E.Runs.move rfl rfl) ?_
  refine E.GL.cmp rfl rfl rfl (fun _ h => (E.Runs.geq rfl rfl rfl h)) (fun h9 => ?_) (fun h9 => ?_)
  · refine E.GL.run rfl rfl rfl (E.Runs.move rfl rfl) ?_
    refine E.GL.run rfl rfl rfl (E.Runs.move rfl rfl) ?_
    refine E.GL.run rfl rfl rfl (E.Runs.move rfl rfl) ?_
    refine E.GL.cmp rfl rfl rfl (fun _ h => (E.Runs.leq rfl rfl rfl h)) (fun h13 => ?_) (fun h13 => ?_)
    · refine E.GL.run rfl rfl rfl (E.Runs.pick_t rfl rfl rfl) ?_
      refine E.GL.run rfl rfl rfl (E.Runs.assign rfl rfl) ?_
      refine E.GL.done ?_
      refine E.QG.code ?_
      refine E.CG.ret ?_
      exact E.QG.result rfl rfl ⟨congrArg (fun x => Ending.returned (Value.bool x)) (by first | exact (h.mpr (by omega)).symm | exact (Bool.eq_false_iff.mpr fun e => by have := h.mp e; omega).symm), L⟩
    · refine E.GL.run rfl rfl rfl (E.Runs.pick_t rfl rfl rfl) ?_
      refine E.GL.run rfl rfl rfl (E.Runs.assign rfl rfl) ?_
      refine E.GL.done ?_
      refine E.QG.code ?_
      refine E.CG.ret ?_
      exact E.QG.result rfl rfl ⟨congrArg (fun x => Ending.returned (Value.bool x)) (by first | exact (h.mpr (by omega)).symm | exact (Bool.eq_false_iff.mpr fun e => by have := h.mp e; omega).symm), L⟩
  · refine E.GL.run rfl rfl rfl (E.Runs.move rfl rfl) ?_
    refine E.GL.skip rfl rfl rfl ?_
    refine E.GL.skip rfl rfl rfl ?_
    refine E.GL.skip rfl rfl rfl ?_
    refine E.GL.run rfl rfl rfl (E.Runs.pick_f rfl rfl rfl) ?_
    refine E.GL.run rfl rfl rfl (E.Runs.assign rfl rfl) ?_
    refine E.GL.done ?_
    refine E.QG.code ?_
    refine E.CG.ret ?_
    exact E.QG.result rfl rfl ⟨congrArg (fun x => Ending.returned (Value.bool x)) (by first | exact (h.mpr (by omega)).symm | exact (Bool.eq_false_iff.mpr fun e => by have := h.mp e; omega).symm), L⟩

set_option maxRecDepth 100000 in
set_option maxHeartbeats 4000000 in

theorem span_o (x y lo hi : Int) (b : Bool) (h : b = true ↔ lo ≤ x ∧ x ≤ y ∧ y ≤ hi) (w : World) :
    Calls Try.prog 63 #[.agg #[.int .i64 x, .int .i64 y], .int .i64 lo, .int .i64 hi] w fun e w' => e = .returned (.bool b) ∧ Below w.heap.size w w' := by
  have hu3 := Try.underlying3
  have hu23 := Try.underlying23
  obtain ⟨z3, o3⟩ := info_some info3s (by decide)
  refine E.enter (N := 26) Try.func63 rfl Try.ntmps63 (args := [.agg #[.int .i64 x, .int .i64 y], .int .i64 lo, .int .i64 hi]) (by simp) ?_
  have L := Below.refl w.heap.size w
  refine E.CG.seq ?_
  refine E.CG.list ?_
  refine E.GL.st rfl rfl rfl (E.ST.box rfl rfl fun g3 w3 e3 b3 l3 => ?_)
  have h3_L : w.heap.size ≤ g3 := by rw [e3]; exact L.size
  replace L := below_step L l3
  refine E.GL.run rfl rfl rfl (E.Runs.assign rfl rfl) ?_
  refine E.GL.done ?_
  refine E.QG.code ?_
  refine E.CG.seq ?_
  refine E.CG.list ?_
  refine E.GL.run rfl rfl rfl (E.Runs.fieldAddr rfl rfl hu23 rfl (by assumption) rfl) ?_
  refine E.GL.run rfl rfl rfl (E.Runs.load rfl rfl hu3 (by first | assumption | exact E.blkc (by assumption) rfl | exact pw_cell_below L (by assumption))) ?_
  refine E.GL.run rfl rfl rfl (E.Runs.fieldAddr rfl rfl hu23 rfl (by assumption) rfl) ?_
  refine E.GL.run rfl rfl rfl (E.Runs.load rfl rfl hu3 (by first | assumption | exact E.blkc (by assumption) rfl | exact pw_cell_below L (by assumption))) ?_
  refine E.GL.cmp rfl rfl rfl (fun _ h => (E.Runs.leq rfl rfl rfl h)) (fun h11 => ?_) (fun h11 => ?_)
  · refine E.GL.run rfl rfl rfl (E.Runs.move rfl rfl) ?_
    refine E.GL.run rfl rfl rfl (E.Runs.fieldAddr rfl rfl hu23 rfl (by assumption) rfl) ?_
    refine E.GL.run rfl rfl rfl (E.Runs.load rfl rfl hu3 (by first | assumption | exact E.blkc (by assumption) rfl | exact pw_cell_below L (by assumption))) ?_
    refine E.GL.run rfl rfl rfl (E.Runs.move rfl rfl) ?_
    refine E.GL.run rfl rfl rfl (E.Runs.move rfl rfl) ?_
    by_cases h17 : lo ≤ x ∧ x ≤ hi
    · refine E.GL.st rfl rfl rfl (E.ST.call rfl ent52 (E.evc rfl (E.evc rfl (E.evc rfl E.evn))) ((within_o x lo hi true (iff_of_true rfl h17) _).mono ?_))
      rintro e w17 ⟨rfl, l17⟩
      refine ⟨_, rfl, ?_⟩
      replace b3 := blk_below b3 l17
      replace L := below_step L l17
      refine E.GL.run rfl rfl rfl (E.Runs.pick_t rfl rfl rfl) ?_
      refine E.GL.run rfl rfl rfl (E.Runs.move rfl rfl) ?_
      refine E.GL.run rfl rfl rfl (E.Runs.fieldAddr rfl rfl hu23 rfl (by assumption) rfl) ?_
      refine E.GL.run rfl rfl rfl (E.Runs.load rfl rfl hu3 (by first | assumption | exact E.blkc (by assumption) rfl | exact pw_cell_below L (by assumption))) ?_
      refine E.GL.run rfl rfl rfl (E.Runs.move rfl rfl) ?_
      refine E.GL.run rfl rfl rfl (E.Runs.move rfl rfl) ?_
      by_cases h24 : lo ≤ y ∧ y ≤ hi
      · refine E.GL.st rfl rfl rfl (E.ST.call rfl ent52 (E.evc rfl (E.evc rfl (E.evc rfl E.evn))) ((within_o y lo hi true (iff_of_true rfl h24) _).mono ?_))
        rintro e w24 ⟨rfl, l24⟩
        refine ⟨_, rfl, ?_⟩
        replace b3 := blk_below b3 l24
        replace L := below_step L l24
        refine E.GL.run rfl rfl rfl (E.Runs.pick_t rfl rfl rfl) ?_
        refine E.GL.run rfl rfl rfl (E.Runs.assign rfl rfl) ?_
        refine E.GL.done ?_
        refine E.QG.code ?_
        refine E.CG.ret ?_
        exact E.QG.result rfl rfl ⟨congrArg (fun x => Ending.returned (Value.bool x)) (by first | exact (h.mpr (by omega)).symm | exact (Bool.eq_false_iff.mpr fun e => by have := h.mp e; omega).symm), L⟩
      · refine E.GL.st rfl rfl rfl (E.ST.call rfl ent52 (E.evc rfl (E.evc rfl (E.evc rfl E.evn))) ((within_o y lo hi false (iff_of_false Bool.false_ne_true h24) _).mono ?_))
        rintro e w24 ⟨rfl, l24⟩
        refine ⟨_, rfl, ?_⟩
        replace b3 := blk_below b3 l24
        replace L := below_step L l24
        refine E.GL.run rfl rfl rfl (E.Runs.pick_t rfl rfl rfl) ?_
        refine E.GL.run rfl rfl rfl (E.Runs.assign rfl rfl) ?_
        refine E.GL.done ?_
        refine E.QG.code ?_
        refine E.CG.ret ?_
        exact E.QG.result rfl rfl ⟨congrArg (fun x => Ending.returned (Value.bool x)) (by first | exact (h.mpr (by omega)).symm | exact (Bool.eq_false_iff.mpr fun e => by have := h.mp e; omega).symm), L⟩
    · refine E.GL.st rfl rfl rfl (E.ST.call rfl ent52 (E.evc rfl (E.evc rfl (E.evc rfl E.evn))) ((within_o x lo hi false (iff_of_false Bool.false_ne_true h17) _).mono ?_))
      rintro e w17 ⟨rfl, l17⟩
      refine ⟨_, rfl, ?_⟩
      replace b3 := blk_below b3 l17
      replace L := below_step L l17
      refine E.GL.run rfl rfl rfl (E.Runs.pick_t rfl rfl rfl) ?_
      refine E.GL.run rfl rfl rfl (E.Runs.move rfl rfl) ?_
      refine E.GL.skip rfl rfl rfl ?_
      refine E.GL.skip rfl rfl rfl ?_
      refine E.GL.skip rfl rfl rfl ?_
      refine E.GL.skip rfl rfl rfl ?_
      refine E.GL.skip rfl rfl rfl ?_
      refine E.GL.run rfl rfl rfl (E.Runs.pick_f rfl rfl rfl) ?_
      refine E.GL.run rfl rfl rfl (E.Runs.assign rfl rfl) ?_
      refine E.GL.done ?_
      refine E.QG.code ?_
      refine E.CG.ret ?_
      exact E.QG.result rfl rfl ⟨congrArg (fun x => Ending.returned (Value.bool x)) (by first | exact (h.mpr (by omega)).symm | exact (Bool.eq_false_iff.mpr fun e => by have := h.mp e; omega).symm), L⟩
  · refine E.GL.run rfl rfl rfl (E.Runs.move rfl rfl) ?_
    refine E.GL.skip rfl rfl rfl ?_
    refine E.GL.skip rfl rfl rfl ?_
    refine E.GL.skip rfl rfl rfl ?_
    refine E.GL.skip rfl rfl rfl ?_
    refine E.GL.skip rfl rfl rfl ?_
    refine E.GL.run rfl rfl rfl (E.Runs.pick_f rfl rfl rfl) ?_
    refine E.GL.run rfl rfl rfl (E.Runs.move rfl rfl) ?_
    refine E.GL.skip rfl rfl rfl ?_
    refine E.GL.skip rfl rfl rfl ?_
    refine E.GL.skip rfl rfl rfl ?_
    refine E.GL.skip rfl rfl rfl ?_
    refine E.GL.skip rfl rfl rfl ?_
    refine E.GL.run rfl rfl rfl (E.Runs.pick_f rfl rfl rfl) ?_
    refine E.GL.run rfl rfl rfl (E.Runs.assign rfl rfl) ?_
    refine E.GL.done ?_
    refine E.QG.code ?_
    refine E.CG.ret ?_
    exact E.QG.result rfl rfl ⟨congrArg (fun x => Ending.returned (Value.bool x)) (by first | exact (h.mpr (by omega)).symm | exact (Bool.eq_false_iff.mpr fun e => by have := h.mp e; omega).symm), L⟩

set_option maxRecDepth 100000 in
set_option maxHeartbeats 4000000 in

theorem span_r (x y lo hi : Int) (b : Bool) (h : b = true ↔ lo ≤ x ∧ x ≤ y ∧ y ≤ hi) (w : World) :
    Calls Try.prog 45 #[.agg #[.int .i64 x, .int .i64 y], .int .i64 lo, .int .i64 hi] w fun e w' => e = .returned (.bool b) ∧ Below w.heap.size w w' := by
  have hu3 := Try.underlying3
  have hu23 := Try.underlying23
  obtain ⟨z3, o3⟩ := info_some info3s (by decide)
  refine E.enter (N := 24) Try.func45 rfl Try.ntmps45 (args := [.agg #[.int .i64 x, .int .i64 y], .int .i64 lo, .int .i64 hi]) (by simp) ?_
  have L := Below.refl w.heap.size w
  refine E.CG.seq ?_
  refine E.CG.list ?_
  refine E.GL.st rfl rfl rfl (E.ST.box rfl rfl fun g3 w3 e3 b3 l3 => ?_)
  have h3_L : w.heap.size ≤ g3 := by rw [e3]; exact L.size
  replace L := below_step L l3
  refine E.GL.run rfl rfl rfl (E.Runs.assign rfl rfl) ?_
  refine E.GL.done ?_
  refine E.QG.code ?_
  refine E.CG.seq ?_
  refine E.CG.list ?_
  refine E.GL.run rfl rfl rfl (E.Runs.move rfl rfl) ?_
  refine E.GL.run rfl rfl rfl (E.Runs.fieldAddr rfl rfl hu23 rfl (by assumption) rfl) ?_
  refine E.GL.run rfl rfl rfl (E.Runs.load rfl rfl hu3 (by first | assumption | exact E.blkc (by assumption) rfl | exact pw_cell_below L (by assumption))) ?_
  refine E.GL.cmp rfl rfl rfl (fun _ h => (E.Runs.leq rfl rfl rfl h)) (fun h10 => ?_) (fun h10 => ?_)
  · refine E.GL.run rfl rfl rfl (E.Runs.move rfl rfl) ?_
    refine E.GL.run rfl rfl rfl (E.Runs.fieldAddr rfl rfl hu23 rfl (by assumption) rfl) ?_
    refine E.GL.run rfl rfl rfl (E.Runs.load rfl rfl hu3 (by first | assumption | exact E.blkc (by assumption) rfl | exact pw_cell_below L (by assumption))) ?_
    refine E.GL.run rfl rfl rfl (E.Runs.fieldAddr rfl rfl hu23 rfl (by assumption) rfl) ?_
    refine E.GL.run rfl rfl rfl (E.Runs.load rfl rfl hu3 (by first | assumption | exact E.blkc (by assumption) rfl | exact pw_cell_below L (by assumption))) ?_
    refine E.GL.cmp rfl rfl rfl (fun _ h => (E.Runs.leq rfl rfl rfl h)) (fun h16 => ?_) (fun h16 => ?_)
    · refine E.GL.run rfl rfl rfl (E.Runs.pick_t rfl rfl rfl) ?_
      refine E.GL.run rfl rfl rfl (E.Runs.move rfl rfl) ?_
      refine E.GL.run rfl rfl rfl (E.Runs.fieldAddr rfl rfl hu23 rfl (by assumption) rfl) ?_
      refine E.GL.run rfl rfl rfl (E.Runs.load rfl rfl hu3 (by first | assumption | exact E.blkc (by assumption) rfl | exact pw_cell_below L (by assumption))) ?_
      refine E.GL.run rfl rfl rfl (E.Runs.move rfl rfl) ?_
      refine E.GL.cmp rfl rfl rfl (fun _ h => (E.Runs.leq rfl rfl rfl h)) (fun h22 => ?_) (fun h22 => ?_)
      · refine E.GL.run rfl rfl rfl (E.Runs.pick_t rfl rfl rfl) ?_
        refine E.GL.run rfl rfl rfl (E.Runs.assign rfl rfl) ?_
        refine E.GL.done ?_
        refine E.QG.code ?_
        refine E.CG.ret ?_
        exact E.QG.result rfl rfl ⟨congrArg (fun x => Ending.returned (Value.bool x)) (by first | exact (h.mpr (by omega)).symm | exact (Bool.eq_false_iff.mpr fun e => by have := h.mp e; omega).symm), L⟩
      · refine E.GL.run rfl rfl rfl (E.Runs.pick_t rfl rfl rfl) ?_
        refine E.GL.run rfl rfl rfl (E.Runs.assign rfl rfl) ?_
        refine E.GL.done ?_
        refine E.QG.code ?_
        refine E.CG.ret ?_
        exact E.QG.result rfl rfl ⟨congrArg (fun x => Ending.returned (Value.bool x)) (by first | exact (h.mpr (by omega)).symm | exact (Bool.eq_false_iff.mpr fun e => by have := h.mp e; omega).symm), L⟩
    · refine E.GL.run rfl rfl rfl (E.Runs.pick_t rfl rfl rfl) ?_
      refine E.GL.run rfl rfl rfl (E.Runs.move rfl rfl) ?_
      refine E.GL.skip rfl rfl rfl ?_
      refine E.GL.skip rfl rfl rfl ?_
      refine E.GL.skip rfl rfl rfl ?_
      refine E.GL.skip rfl rfl rfl ?_
      refine E.GL.run rfl rfl rfl (E.Runs.pick_f rfl rfl rfl) ?_
      refine E.GL.run rfl rfl rfl (E.Runs.assign rfl rfl) ?_
      refine E.GL.done ?_
      refine E.QG.code ?_
      refine E.CG.ret ?_
      exact E.QG.result rfl rfl ⟨congrArg (fun x => Ending.returned (Value.bool x)) (by first | exact (h.mpr (by omega)).symm | exact (Bool.eq_false_iff.mpr fun e => by have := h.mp e; omega).symm), L⟩
  · refine E.GL.run rfl rfl rfl (E.Runs.move rfl rfl) ?_
    refine E.GL.skip rfl rfl rfl ?_
    refine E.GL.skip rfl rfl rfl ?_
    refine E.GL.skip rfl rfl rfl ?_
    refine E.GL.skip rfl rfl rfl ?_
    refine E.GL.skip rfl rfl rfl ?_
    refine E.GL.run rfl rfl rfl (E.Runs.pick_f rfl rfl rfl) ?_
    refine E.GL.run rfl rfl rfl (E.Runs.move rfl rfl) ?_
    refine E.GL.skip rfl rfl rfl ?_
    refine E.GL.skip rfl rfl rfl ?_
    refine E.GL.skip rfl rfl rfl ?_
    refine E.GL.skip rfl rfl rfl ?_
    refine E.GL.run rfl rfl rfl (E.Runs.pick_f rfl rfl rfl) ?_
    refine E.GL.run rfl rfl rfl (E.Runs.assign rfl rfl) ?_
    refine E.GL.done ?_
    refine E.QG.code ?_
    refine E.CG.ret ?_
    exact E.QG.result rfl rfl ⟨congrArg (fun x => Ending.returned (Value.bool x)) (by first | exact (h.mpr (by omega)).symm | exact (Bool.eq_false_iff.mpr fun e => by have := h.mp e; omega).symm), L⟩

set_option maxRecDepth 100000 in
set_option maxHeartbeats 4000000 in

theorem slot_o (H : Hs) (s : S36) (b : Bool) (h : b = true ↔ SlotOk H s) (hh : HouseOk H) (w : World) :
    Calls Try.prog 46 #[hv H, sv s] w fun e w' => e = .returned (.bool b) ∧ Below w.heap.size w w' := by
  have hu3 := Try.underlying3
  have hu23 := Try.underlying23
  have hu25 := Try.underlying25
  have hu36 := Try.underlying36
  obtain ⟨z3, o3⟩ := info_some info3s (by decide)
  obtain ⟨z23, o23⟩ := info_some info23s (by decide)
  have hT := hh.1
  refine E.enter (N := 26) Try.func46 rfl Try.ntmps46 (args := [hv H, sv s]) (by simp) ?_
  have L := Below.refl w.heap.size w
  refine E.CG.seq ?_
  refine E.CG.list ?_
  refine E.GL.st rfl rfl rfl (E.ST.box rfl rfl fun g2 w2 e2 b2 l2 => ?_)
  have h2_L : w.heap.size ≤ g2 := by rw [e2]; exact L.size
  replace L := below_step L l2
  refine E.GL.st rfl rfl rfl (E.ST.box rfl rfl fun g3 w3 e3 b3 l3 => ?_)
  have h3_L : w.heap.size ≤ g3 := by rw [e3]; exact L.size
  have n3_b2 : g2 ≠ g3 := by have := blk_lt b2; omega
  replace b2 := blk_below b2 l3
  replace L := below_step L l3
  refine E.GL.run rfl rfl rfl (E.Runs.assign rfl rfl) ?_
  refine E.GL.done ?_
  refine E.QG.code ?_
  refine E.CG.seq ?_
  refine E.CG.list ?_
  refine E.GL.run rfl rfl rfl (E.Runs.fieldAddr rfl rfl hu36 rfl (by assumption) rfl) ?_
  refine E.GL.run rfl rfl rfl (E.Runs.load rfl rfl hu3 (by first | assumption | exact E.blkc (by assumption) rfl | exact pw_cell_below L (by assumption))) ?_
  by_cases h7 : 0 ≤ s.f0 ∧ s.f0 ≤ 5
  · refine E.GL.st rfl rfl rfl (E.ST.call rfl ent52 (E.evc rfl (E.evc rfl (E.evc rfl E.evn))) ((within_o s.f0 0 5 true (iff_of_true rfl h7) _).mono ?_))
    rintro e w7 ⟨rfl, l7⟩
    refine ⟨_, rfl, ?_⟩
    replace b2 := blk_below b2 l7
    replace b3 := blk_below b3 l7
    replace L := below_step L l7
    refine E.GL.run rfl rfl rfl (E.Runs.move rfl rfl) ?_
    refine E.GL.run rfl rfl rfl (E.Runs.fieldAddr rfl rfl hu36 rfl (by assumption) rfl) ?_
    refine E.GL.run rfl rfl rfl (E.Runs.loads (cs := [.int .i64 s.f2.f0, .int .i64 s.f2.f1]) rfl rfl hu23 rfl info23s (E.blks b3 2 rfl)) ?_
    by_cases h11 : 1 ≤ s.f2.f0 ∧ s.f2.f0 ≤ s.f2.f1 ∧ s.f2.f1 ≤ 400
    · refine E.GL.st rfl rfl rfl (E.ST.call rfl ent63 (E.evc rfl (E.evc rfl (E.evc rfl E.evn))) ((span_o s.f2.f0 s.f2.f1 1 400 true (iff_of_true rfl h11) _).mono ?_))
      rintro e w11 ⟨rfl, l11⟩
      refine ⟨_, rfl, ?_⟩
      replace b2 := blk_below b2 l11
      replace b3 := blk_below b3 l11
      replace L := below_step L l11
      refine E.GL.run rfl rfl rfl (E.Runs.pick_t rfl rfl rfl) ?_
      refine E.GL.run rfl rfl rfl (E.Runs.move rfl rfl) ?_
      refine E.GL.run rfl rfl rfl (E.Runs.fieldAddr rfl rfl hu36 rfl (by assumption) rfl) ?_
      refine E.GL.run rfl rfl rfl (E.Runs.load rfl rfl hu3 (by first | assumption | exact E.blkc (by assumption) rfl | exact pw_cell_below L (by assumption))) ?_
      by_cases h16 : 0 ≤ s.f3 ∧ s.f3 ≤ 500
      · refine E.GL.st rfl rfl rfl (E.ST.call rfl ent52 (E.evc rfl (E.evc rfl (E.evc rfl E.evn))) ((within_o s.f3 0 500 true (iff_of_true rfl h16) _).mono ?_))
        rintro e w16 ⟨rfl, l16⟩
        refine ⟨_, rfl, ?_⟩
        replace b2 := blk_below b2 l16
        replace b3 := blk_below b3 l16
        replace L := below_step L l16
        refine E.GL.run rfl rfl rfl (E.Runs.pick_t rfl rfl rfl) ?_
        refine E.GL.run rfl rfl rfl (E.Runs.move rfl rfl) ?_
        refine E.GL.run rfl rfl rfl (E.Runs.fieldAddr rfl rfl hu36 rfl (by assumption) rfl) ?_
        refine E.GL.run rfl rfl rfl (E.Runs.load rfl rfl hu3 (by first | assumption | exact E.blkc (by assumption) rfl | exact pw_cell_below L (by assumption))) ?_
        refine E.GL.run rfl rfl rfl (E.Runs.fieldAddr rfl rfl hu25 rfl (by assumption) rfl) ?_
        refine E.GL.run rfl rfl rfl (E.Runs.load rfl rfl hu3 (by first | assumption | exact E.blkc (by assumption) rfl | exact pw_cell_below L (by assumption))) ?_
        refine E.GL.run rfl rfl rfl (E.Runs.sub rfl rfl rfl (IntWalk.i64_in _ (by omega))) ?_
        by_cases h24 : 0 ≤ s.f4 ∧ s.f4 ≤ H.teams - 1
        · refine E.GL.st rfl rfl rfl (E.ST.call rfl ent52 (E.evc rfl (E.evc rfl (E.evc rfl E.evn))) ((within_o s.f4 0 (H.teams - 1) true (iff_of_true rfl h24) _).mono ?_))
          rintro e w24 ⟨rfl, l24⟩
          refine ⟨_, rfl, ?_⟩
          replace b2 := blk_below b2 l24
          replace b3 := blk_below b3 l24
          replace L := below_step L l24
          refine E.GL.run rfl rfl rfl (E.Runs.pick_t rfl rfl rfl) ?_
          refine E.GL.run rfl rfl rfl (E.Runs.assign rfl rfl) ?_
          refine E.GL.done ?_
          refine E.QG.code ?_
          refine E.CG.ret ?_
          exact E.QG.result rfl rfl ⟨congrArg (fun x => Ending.returned (Value.bool x)) (by first | exact (h.mpr (by unfold SlotOk; omega)).symm | exact (Bool.eq_false_iff.mpr fun e => by have := h.mp e; unfold SlotOk at this; omega).symm), L⟩
        · refine E.GL.st rfl rfl rfl (E.ST.call rfl ent52 (E.evc rfl (E.evc rfl (E.evc rfl E.evn))) ((within_o s.f4 0 (H.teams - 1) false (iff_of_false Bool.false_ne_true h24) _).mono ?_))
          rintro e w24 ⟨rfl, l24⟩
          refine ⟨_, rfl, ?_⟩
          replace b2 := blk_below b2 l24
          replace b3 := blk_below b3 l24
          replace L := below_step L l24
          refine E.GL.run rfl rfl rfl (E.Runs.pick_t rfl rfl rfl) ?_
          refine E.GL.run rfl rfl rfl (E.Runs.assign rfl rfl) ?_
          refine E.GL.done ?_
          refine E.QG.code ?_
          refine E.CG.ret ?_
          exact E.QG.result rfl rfl ⟨congrArg (fun x => Ending.returned (Value.bool x)) (by first | exact (h.mpr (by unfold SlotOk; omega)).symm | exact (Bool.eq_false_iff.mpr fun e => by have := h.mp e; unfold SlotOk at this; omega).symm), L⟩
      · refine E.GL.st rfl rfl rfl (E.ST.call rfl ent52 (E.evc rfl (E.evc rfl (E.evc rfl E.evn))) ((within_o s.f3 0 500 false (iff_of_false Bool.false_ne_true h16) _).mono ?_))
        rintro e w16 ⟨rfl, l16⟩
        refine ⟨_, rfl, ?_⟩
        replace b2 := blk_below b2 l16
        replace b3 := blk_below b3 l16
        replace L := below_step L l16
        refine E.GL.run rfl rfl rfl (E.Runs.pick_t rfl rfl rfl) ?_
        refine E.GL.run rfl rfl rfl (E.Runs.move rfl rfl) ?_
        refine E.GL.skip rfl rfl rfl ?_
        refine E.GL.skip rfl rfl rfl ?_
        refine E.GL.skip rfl rfl rfl ?_
        refine E.GL.skip rfl rfl rfl ?_
        refine E.GL.skip rfl rfl rfl ?_
        refine E.GL.skip rfl rfl rfl ?_
        refine E.GL.run rfl rfl rfl (E.Runs.pick_f rfl rfl rfl) ?_
        refine E.GL.run rfl rfl rfl (E.Runs.assign rfl rfl) ?_
        refine E.GL.done ?_
        refine E.QG.code ?_
        refine E.CG.ret ?_
        exact E.QG.result rfl rfl ⟨congrArg (fun x => Ending.returned (Value.bool x)) (by first | exact (h.mpr (by unfold SlotOk; omega)).symm | exact (Bool.eq_false_iff.mpr fun e => by have := h.mp e; unfold SlotOk at this; omega).symm), L⟩
    · refine E.GL.st rfl rfl rfl (E.ST.call rfl ent63 (E.evc rfl (E.evc rfl (E.evc rfl E.evn))) ((span_o s.f2.f0 s.f2.f1 1 400 false (iff_of_false Bool.false_ne_true h11) _).mono ?_))
      rintro e w11 ⟨rfl, l11⟩
      refine ⟨_, rfl, ?_⟩
      replace b2 := blk_below b2 l11
      replace b3 := blk_below b3 l11
      replace L := below_step L l11
      refine E.GL.run rfl rfl rfl (E.Runs.pick_t rfl rfl rfl) ?_
      refine E.GL.run rfl rfl rfl (E.Runs.move rfl rfl) ?_
      refine E.GL.skip rfl rfl rfl ?_
      refine E.GL.skip rfl rfl rfl ?_
      refine E.GL.skip rfl rfl rfl ?_
      refine E.GL.run rfl rfl rfl (E.Runs.pick_f rfl rfl rfl) ?_
      refine E.GL.run rfl rfl rfl (E.Runs.move rfl rfl) ?_
      refine E.GL.skip rfl rfl rfl ?_
      refine E.GL.skip rfl rfl rfl ?_
      refine E.GL.skip rfl rfl rfl ?_
      refine E.GL.skip rfl rfl rfl ?_
      refine E.GL.skip rfl rfl rfl ?_
      refine E.GL.skip rfl rfl rfl ?_
      refine E.GL.run rfl rfl rfl (E.Runs.pick_f rfl rfl rfl) ?_
      refine E.GL.run rfl rfl rfl (E.Runs.assign rfl rfl) ?_
      refine E.GL.done ?_
      refine E.QG.code ?_
      refine E.CG.ret ?_
      exact E.QG.result rfl rfl ⟨congrArg (fun x => Ending.returned (Value.bool x)) (by first | exact (h.mpr (by unfold SlotOk; omega)).symm | exact (Bool.eq_false_iff.mpr fun e => by have := h.mp e; unfold SlotOk at this; omega).symm), L⟩
  · refine E.GL.st rfl rfl rfl (E.ST.call rfl ent52 (E.evc rfl (E.evc rfl (E.evc rfl E.evn))) ((within_o s.f0 0 5 false (iff_of_false Bool.false_ne_true h7) _).mono ?_))
    rintro e w7 ⟨rfl, l7⟩
    refine ⟨_, rfl, ?_⟩
    replace b2 := blk_below b2 l7
    replace b3 := blk_below b3 l7
    replace L := below_step L l7
    refine E.GL.run rfl rfl rfl (E.Runs.move rfl rfl) ?_
    refine E.GL.skip rfl rfl rfl ?_
    refine E.GL.skip rfl rfl rfl ?_
    refine E.GL.skip rfl rfl rfl ?_
    refine E.GL.run rfl rfl rfl (E.Runs.pick_f rfl rfl rfl) ?_
    refine E.GL.run rfl rfl rfl (E.Runs.move rfl rfl) ?_
    refine E.GL.skip rfl rfl rfl ?_
    refine E.GL.skip rfl rfl rfl ?_
    refine E.GL.skip rfl rfl rfl ?_
    refine E.GL.run rfl rfl rfl (E.Runs.pick_f rfl rfl rfl) ?_
    refine E.GL.run rfl rfl rfl (E.Runs.move rfl rfl) ?_
    refine E.GL.skip rfl rfl rfl ?_
    refine E.GL.skip rfl rfl rfl ?_
    refine E.GL.skip rfl rfl rfl ?_
    refine E.GL.skip rfl rfl rfl ?_
    refine E.GL.skip rfl rfl rfl ?_
    refine E.GL.skip rfl rfl rfl ?_
    refine E.GL.run rfl rfl rfl (E.Runs.pick_f rfl rfl rfl) ?_
    refine E.GL.run rfl rfl rfl (E.Runs.assign rfl rfl) ?_
    refine E.GL.done ?_
    refine E.QG.code ?_
    refine E.CG.ret ?_
    exact E.QG.result rfl rfl ⟨congrArg (fun x => Ending.returned (Value.bool x)) (by first | exact (h.mpr (by unfold SlotOk; omega)).symm | exact (Bool.eq_false_iff.mpr fun e => by have := h.mp e; unfold SlotOk at this; omega).symm), L⟩

set_option maxRecDepth 100000 in
set_option maxHeartbeats 4000000 in

theorem slot_r (H : Hs) (s : S36) (b : Bool) (h : b = true ↔ SlotOk H s) (hh : HouseOk H) (w : World) :
    Calls Try.prog 16 #[hv H, sv s] w fun e w' => e = .returned (.bool b) ∧ Below w.heap.size w w' := by
  have hu3 := Try.underlying3
  have hu23 := Try.underlying23
  have hu25 := Try.underlying25
  have hu36 := Try.underlying36
  obtain ⟨z3, o3⟩ := info_some info3s (by decide)
  obtain ⟨z23, o23⟩ := info_some info23s (by decide)
  have hT := hh.1
  refine E.enter (N := 26) Try.func16 rfl Try.ntmps16 (args := [hv H, sv s]) (by simp) ?_
  have L := Below.refl w.heap.size w
  refine E.CG.seq ?_
  refine E.CG.list ?_
  refine E.GL.st rfl rfl rfl (E.ST.box rfl rfl fun g2 w2 e2 b2 l2 => ?_)
  have h2_L : w.heap.size ≤ g2 := by rw [e2]; exact L.size
  replace L := below_step L l2
  refine E.GL.st rfl rfl rfl (E.ST.box rfl rfl fun g3 w3 e3 b3 l3 => ?_)
  have h3_L : w.heap.size ≤ g3 := by rw [e3]; exact L.size
  have n3_b2 : g2 ≠ g3 := by have := blk_lt b2; omega
  replace b2 := blk_below b2 l3
  replace L := below_step L l3
  refine E.GL.run rfl rfl rfl (E.Runs.assign rfl rfl) ?_
  refine E.GL.done ?_
  refine E.QG.code ?_
  refine E.CG.seq ?_
  refine E.CG.list ?_
  refine E.GL.run rfl rfl rfl (E.Runs.fieldAddr rfl rfl hu36 rfl (by assumption) rfl) ?_
  refine E.GL.run rfl rfl rfl (E.Runs.load rfl rfl hu3 (by first | assumption | exact E.blkc (by assumption) rfl | exact pw_cell_below L (by assumption))) ?_
  by_cases h7 : 0 ≤ s.f0 ∧ s.f0 ≤ 5
  · refine E.GL.st rfl rfl rfl (E.ST.call rfl ent44 (E.evc rfl (E.evc rfl (E.evc rfl E.evn))) ((within_row s.f0 0 5 true (iff_of_true rfl h7) _).mono ?_))
    rintro e w7 ⟨rfl, l7⟩
    refine ⟨_, rfl, ?_⟩
    replace b2 := blk_below b2 l7
    replace b3 := blk_below b3 l7
    replace L := below_step L l7
    refine E.GL.run rfl rfl rfl (E.Runs.move rfl rfl) ?_
    refine E.GL.run rfl rfl rfl (E.Runs.fieldAddr rfl rfl hu36 rfl (by assumption) rfl) ?_
    refine E.GL.run rfl rfl rfl (E.Runs.loads (cs := [.int .i64 s.f2.f0, .int .i64 s.f2.f1]) rfl rfl hu23 rfl info23s (E.blks b3 2 rfl)) ?_
    by_cases h11 : 1 ≤ s.f2.f0 ∧ s.f2.f0 ≤ s.f2.f1 ∧ s.f2.f1 ≤ 400
    · refine E.GL.st rfl rfl rfl (E.ST.call rfl ent45 (E.evc rfl (E.evc rfl (E.evc rfl E.evn))) ((span_r s.f2.f0 s.f2.f1 1 400 true (iff_of_true rfl h11) _).mono ?_))
      rintro e w11 ⟨rfl, l11⟩
      refine ⟨_, rfl, ?_⟩
      replace b2 := blk_below b2 l11
      replace b3 := blk_below b3 l11
      replace L := below_step L l11
      refine E.GL.run rfl rfl rfl (E.Runs.pick_t rfl rfl rfl) ?_
      refine E.GL.run rfl rfl rfl (E.Runs.move rfl rfl) ?_
      refine E.GL.run rfl rfl rfl (E.Runs.fieldAddr rfl rfl hu36 rfl (by assumption) rfl) ?_
      refine E.GL.run rfl rfl rfl (E.Runs.load rfl rfl hu3 (by first | assumption | exact E.blkc (by assumption) rfl | exact pw_cell_below L (by assumption))) ?_
      by_cases h16 : 0 ≤ s.f3 ∧ s.f3 ≤ 500
      · refine E.GL.st rfl rfl rfl (E.ST.call rfl ent44 (E.evc rfl (E.evc rfl (E.evc rfl E.evn))) ((within_row s.f3 0 500 true (iff_of_true rfl h16) _).mono ?_))
        rintro e w16 ⟨rfl, l16⟩
        refine ⟨_, rfl, ?_⟩
        replace b2 := blk_below b2 l16
        replace b3 := blk_below b3 l16
        replace L := below_step L l16
        refine E.GL.run rfl rfl rfl (E.Runs.pick_t rfl rfl rfl) ?_
        refine E.GL.run rfl rfl rfl (E.Runs.move rfl rfl) ?_
        refine E.GL.run rfl rfl rfl (E.Runs.fieldAddr rfl rfl hu36 rfl (by assumption) rfl) ?_
        refine E.GL.run rfl rfl rfl (E.Runs.load rfl rfl hu3 (by first | assumption | exact E.blkc (by assumption) rfl | exact pw_cell_below L (by assumption))) ?_
        refine E.GL.run rfl rfl rfl (E.Runs.fieldAddr rfl rfl hu25 rfl (by assumption) rfl) ?_
        refine E.GL.run rfl rfl rfl (E.Runs.load rfl rfl hu3 (by first | assumption | exact E.blkc (by assumption) rfl | exact pw_cell_below L (by assumption))) ?_
        refine E.GL.run rfl rfl rfl (E.Runs.sub rfl rfl rfl (IntWalk.i64_in _ (by omega))) ?_
        by_cases h24 : 0 ≤ s.f4 ∧ s.f4 ≤ H.teams - 1
        · refine E.GL.st rfl rfl rfl (E.ST.call rfl ent44 (E.evc rfl (E.evc rfl (E.evc rfl E.evn))) ((within_row s.f4 0 (H.teams - 1) true (iff_of_true rfl h24) _).mono ?_))
          rintro e w24 ⟨rfl, l24⟩
          refine ⟨_, rfl, ?_⟩
          replace b2 := blk_below b2 l24
          replace b3 := blk_below b3 l24
          replace L := below_step L l24
          refine E.GL.run rfl rfl rfl (E.Runs.pick_t rfl rfl rfl) ?_
          refine E.GL.run rfl rfl rfl (E.Runs.assign rfl rfl) ?_
          refine E.GL.done ?_
          refine E.QG.code ?_
          refine E.CG.ret ?_
          exact E.QG.result rfl rfl ⟨congrArg (fun x => Ending.returned (Value.bool x)) (by first | exact (h.mpr (by unfold SlotOk; omega)).symm | exact (Bool.eq_false_iff.mpr fun e => by have := h.mp e; unfold SlotOk at this; omega).symm), L⟩
        · refine E.GL.st rfl rfl rfl (E.ST.call rfl ent44 (E.evc rfl (E.evc rfl (E.evc rfl E.evn))) ((within_row s.f4 0 (H.teams - 1) false (iff_of_false Bool.false_ne_true h24) _).mono ?_))
          rintro e w24 ⟨rfl, l24⟩
          refine ⟨_, rfl, ?_⟩
          replace b2 := blk_below b2 l24
          replace b3 := blk_below b3 l24
          replace L := below_step L l24
          refine E.GL.run rfl rfl rfl (E.Runs.pick_t rfl rfl rfl) ?_
          refine E.GL.run rfl rfl rfl (E.Runs.assign rfl rfl) ?_
          refine E.GL.done ?_
          refine E.QG.code ?_
          refine E.CG.ret ?_
          exact E.QG.result rfl rfl ⟨congrArg (fun x => Ending.returned (Value.bool x)) (by first | exact (h.mpr (by unfold SlotOk; omega)).symm | exact (Bool.eq_false_iff.mpr fun e => by have := h.mp e; unfold SlotOk at this; omega).symm), L⟩
      · refine E.GL.st rfl rfl rfl (E.ST.call rfl ent44 (E.evc rfl (E.evc rfl (E.evc rfl E.evn))) ((within_row s.f3 0 500 false (iff_of_false Bool.false_ne_true h16) _).mono ?_))
        rintro e w16 ⟨rfl, l16⟩
        refine ⟨_, rfl, ?_⟩
        replace b2 := blk_below b2 l16
        replace b3 := blk_below b3 l16
        replace L := below_step L l16
        refine E.GL.run rfl rfl rfl (E.Runs.pick_t rfl rfl rfl) ?_
        refine E.GL.run rfl rfl rfl (E.Runs.move rfl rfl) ?_
        refine E.GL.skip rfl rfl rfl ?_
        refine E.GL.skip rfl rfl rfl ?_
        refine E.GL.skip rfl rfl rfl ?_
        refine E.GL.skip rfl rfl rfl ?_
        refine E.GL.skip rfl rfl rfl ?_
        refine E.GL.skip rfl rfl rfl ?_
        refine E.GL.run rfl rfl rfl (E.Runs.pick_f rfl rfl rfl) ?_
        refine E.GL.run rfl rfl rfl (E.Runs.assign rfl rfl) ?_
        refine E.GL.done ?_
        refine E.QG.code ?_
        refine E.CG.ret ?_
        exact E.QG.result rfl rfl ⟨congrArg (fun x => Ending.returned (Value.bool x)) (by first | exact (h.mpr (by unfold SlotOk; omega)).symm | exact (Bool.eq_false_iff.mpr fun e => by have := h.mp e; unfold SlotOk at this; omega).symm), L⟩
    · refine E.GL.st rfl rfl rfl (E.ST.call rfl ent45 (E.evc rfl (E.evc rfl (E.evc rfl E.evn))) ((span_r s.f2.f0 s.f2.f1 1 400 false (iff_of_false Bool.false_ne_true h11) _).mono ?_))
      rintro e w11 ⟨rfl, l11⟩
      refine ⟨_, rfl, ?_⟩
      replace b2 := blk_below b2 l11
      replace b3 := blk_below b3 l11
      replace L := below_step L l11
      refine E.GL.run rfl rfl rfl (E.Runs.pick_t rfl rfl rfl) ?_
      refine E.GL.run rfl rfl rfl (E.Runs.move rfl rfl) ?_
      refine E.GL.skip rfl rfl rfl ?_
      refine E.GL.skip rfl rfl rfl ?_
      refine E.GL.skip rfl rfl rfl ?_
      refine E.GL.run rfl rfl rfl (E.Runs.pick_f rfl rfl rfl) ?_
      refine E.GL.run rfl rfl rfl (E.Runs.move rfl rfl) ?_
      refine E.GL.skip rfl rfl rfl ?_
      refine E.GL.skip rfl rfl rfl ?_
      refine E.GL.skip rfl rfl rfl ?_
      refine E.GL.skip rfl rfl rfl ?_
      refine E.GL.skip rfl rfl rfl ?_
      refine E.GL.skip rfl rfl rfl ?_
      refine E.GL.run rfl rfl rfl (E.Runs.pick_f rfl rfl rfl) ?_
      refine E.GL.run rfl rfl rfl (E.Runs.assign rfl rfl) ?_
      refine E.GL.done ?_
      refine E.QG.code ?_
      refine E.CG.ret ?_
      exact E.QG.result rfl rfl ⟨congrArg (fun x => Ending.returned (Value.bool x)) (by first | exact (h.mpr (by unfold SlotOk; omega)).symm | exact (Bool.eq_false_iff.mpr fun e => by have := h.mp e; unfold SlotOk at this; omega).symm), L⟩
  · refine E.GL.st rfl rfl rfl (E.ST.call rfl ent44 (E.evc rfl (E.evc rfl (E.evc rfl E.evn))) ((within_row s.f0 0 5 false (iff_of_false Bool.false_ne_true h7) _).mono ?_))
    rintro e w7 ⟨rfl, l7⟩
    refine ⟨_, rfl, ?_⟩
    replace b2 := blk_below b2 l7
    replace b3 := blk_below b3 l7
    replace L := below_step L l7
    refine E.GL.run rfl rfl rfl (E.Runs.move rfl rfl) ?_
    refine E.GL.skip rfl rfl rfl ?_
    refine E.GL.skip rfl rfl rfl ?_
    refine E.GL.skip rfl rfl rfl ?_
    refine E.GL.run rfl rfl rfl (E.Runs.pick_f rfl rfl rfl) ?_
    refine E.GL.run rfl rfl rfl (E.Runs.move rfl rfl) ?_
    refine E.GL.skip rfl rfl rfl ?_
    refine E.GL.skip rfl rfl rfl ?_
    refine E.GL.skip rfl rfl rfl ?_
    refine E.GL.run rfl rfl rfl (E.Runs.pick_f rfl rfl rfl) ?_
    refine E.GL.run rfl rfl rfl (E.Runs.move rfl rfl) ?_
    refine E.GL.skip rfl rfl rfl ?_
    refine E.GL.skip rfl rfl rfl ?_
    refine E.GL.skip rfl rfl rfl ?_
    refine E.GL.skip rfl rfl rfl ?_
    refine E.GL.skip rfl rfl rfl ?_
    refine E.GL.skip rfl rfl rfl ?_
    refine E.GL.run rfl rfl rfl (E.Runs.pick_f rfl rfl rfl) ?_
    refine E.GL.run rfl rfl rfl (E.Runs.assign rfl rfl) ?_
    refine E.GL.done ?_
    refine E.QG.code ?_
    refine E.CG.ret ?_
    exact E.QG.result rfl rfl ⟨congrArg (fun x => Ending.returned (Value.bool x)) (by first | exact (h.mpr (by unfold SlotOk; omega)).symm | exact (Bool.eq_false_iff.mpr fun e => by have := h.mp e; unfold SlotOk at this; omega).symm), L⟩

set_option maxRecDepth 100000 in
set_option maxHeartbeats 4000000 in

theorem house_o (H : Hs) (b : Bool) (h : b = true ↔ HouseOk H) (w : World) :
    Calls Try.prog 55 #[hv H] w fun e w' => e = .returned (.bool b) ∧ Below w.heap.size w w' := by
  have hu3 := Try.underlying3
  have hu23 := Try.underlying23
  have hu25 := Try.underlying25
  obtain ⟨z3, o3⟩ := info_some info3s (by decide)
  obtain ⟨z23, o23⟩ := info_some info23s (by decide)
  refine E.enter (N := 31) Try.func55 rfl Try.ntmps55 (args := [hv H]) (by simp) ?_
  have L := Below.refl w.heap.size w
  refine E.CG.seq ?_
  refine E.CG.list ?_
  refine E.GL.st rfl rfl rfl (E.ST.box rfl rfl fun g1 w1 e1 b1 l1 => ?_)
  have h1_L : w.heap.size ≤ g1 := by rw [e1]; exact L.size
  replace L := below_step L l1
  refine E.GL.run rfl rfl rfl (E.Runs.assign rfl rfl) ?_
  refine E.GL.done ?_
  refine E.QG.code ?_
  refine E.CG.seq ?_
  refine E.CG.list ?_
  refine E.GL.run rfl rfl rfl (E.Runs.fieldAddr rfl rfl hu25 rfl (by assumption) rfl) ?_
  refine E.GL.run rfl rfl rfl (E.Runs.load rfl rfl hu3 (by first | assumption | exact E.blkc (by assumption) rfl | exact pw_cell_below L (by assumption))) ?_
  by_cases h5 : 1 ≤ H.teams ∧ H.teams ≤ 4
  · refine E.GL.st rfl rfl rfl (E.ST.call rfl ent52 (E.evc rfl (E.evc rfl (E.evc rfl E.evn))) ((within_o H.teams 1 4 true (iff_of_true rfl h5) _).mono ?_))
    rintro e w5 ⟨rfl, l5⟩
    refine ⟨_, rfl, ?_⟩
    replace b1 := blk_below b1 l5
    replace L := below_step L l5
    refine E.GL.run rfl rfl rfl (E.Runs.move rfl rfl) ?_
    refine E.GL.run rfl rfl rfl (E.Runs.fieldAddr rfl rfl hu25 rfl (by assumption) rfl) ?_
    refine E.GL.run rfl rfl rfl (E.Runs.load rfl rfl hu3 (by first | assumption | exact E.blkc (by assumption) rfl | exact pw_cell_below L (by assumption))) ?_
    by_cases h9 : 0 ≤ H.walk ∧ H.walk ≤ 60
    · refine E.GL.st rfl rfl rfl (E.ST.call rfl ent52 (E.evc rfl (E.evc rfl (E.evc rfl E.evn))) ((within_o H.walk 0 60 true (iff_of_true rfl h9) _).mono ?_))
      rintro e w9 ⟨rfl, l9⟩
      refine ⟨_, rfl, ?_⟩
      replace b1 := blk_below b1 l9
      replace L := below_step L l9
      refine E.GL.run rfl rfl rfl (E.Runs.pick_t rfl rfl rfl) ?_
      refine E.GL.run rfl rfl rfl (E.Runs.move rfl rfl) ?_
      refine E.GL.run rfl rfl rfl (E.Runs.fieldAddr rfl rfl hu25 rfl (by assumption) rfl) ?_
      refine E.GL.run rfl rfl rfl (E.Runs.load rfl rfl hu3 (by first | assumption | exact E.blkc (by assumption) rfl | exact pw_cell_below L (by assumption))) ?_
      by_cases h14 : 0 ≤ H.early ∧ H.early ≤ 120
      · refine E.GL.st rfl rfl rfl (E.ST.call rfl ent52 (E.evc rfl (E.evc rfl (E.evc rfl E.evn))) ((within_o H.early 0 120 true (iff_of_true rfl h14) _).mono ?_))
        rintro e w14 ⟨rfl, l14⟩
        refine ⟨_, rfl, ?_⟩
        replace b1 := blk_below b1 l14
        replace L := below_step L l14
        refine E.GL.run rfl rfl rfl (E.Runs.pick_t rfl rfl rfl) ?_
        refine E.GL.run rfl rfl rfl (E.Runs.move rfl rfl) ?_
        refine E.GL.run rfl rfl rfl (E.Runs.fieldAddr rfl rfl hu25 rfl (by assumption) rfl) ?_
        refine E.GL.run rfl rfl rfl (E.Runs.load rfl rfl hu3 (by first | assumption | exact E.blkc (by assumption) rfl | exact pw_cell_below L (by assumption))) ?_
        by_cases h19 : 0 ≤ H.foyer ∧ H.foyer ≤ 5000
        · refine E.GL.st rfl rfl rfl (E.ST.call rfl ent52 (E.evc rfl (E.evc rfl (E.evc rfl E.evn))) ((within_o H.foyer 0 5000 true (iff_of_true rfl h19) _).mono ?_))
          rintro e w19 ⟨rfl, l19⟩
          refine ⟨_, rfl, ?_⟩
          replace b1 := blk_below b1 l19
          replace L := below_step L l19
          refine E.GL.run rfl rfl rfl (E.Runs.pick_t rfl rfl rfl) ?_
          refine E.GL.run rfl rfl rfl (E.Runs.move rfl rfl) ?_
          refine E.GL.run rfl rfl rfl (E.Runs.fieldAddr rfl rfl hu25 rfl (by assumption) rfl) ?_
          refine E.GL.run rfl rfl rfl (E.Runs.loads (cs := [.int .i64 H.dl, .int .i64 H.dh]) rfl rfl hu23 rfl info23s (E.blks b1 4 rfl)) ?_
          by_cases h24 : 1 ≤ H.dl ∧ H.dl ≤ H.dh ∧ H.dh ≤ 100
          · refine E.GL.st rfl rfl rfl (E.ST.call rfl ent63 (E.evc rfl (E.evc rfl (E.evc rfl E.evn))) ((span_o H.dl H.dh 1 100 true (iff_of_true rfl h24) _).mono ?_))
            rintro e w24 ⟨rfl, l24⟩
            refine ⟨_, rfl, ?_⟩
            replace b1 := blk_below b1 l24
            replace L := below_step L l24
            refine E.GL.run rfl rfl rfl (E.Runs.pick_t rfl rfl rfl) ?_
            refine E.GL.run rfl rfl rfl (E.Runs.move rfl rfl) ?_
            refine E.GL.run rfl rfl rfl (E.Runs.fieldAddr rfl rfl hu25 rfl (by assumption) rfl) ?_
            refine E.GL.run rfl rfl rfl (E.Runs.loads (cs := [.int .i64 H.cl, .int .i64 H.ch]) rfl rfl hu23 rfl info23s (E.blks b1 6 rfl)) ?_
            by_cases h29 : 1 ≤ H.cl ∧ H.cl ≤ H.ch ∧ H.ch ≤ 120
            · refine E.GL.st rfl rfl rfl (E.ST.call rfl ent63 (E.evc rfl (E.evc rfl (E.evc rfl E.evn))) ((span_o H.cl H.ch 1 120 true (iff_of_true rfl h29) _).mono ?_))
              rintro e w29 ⟨rfl, l29⟩
              refine ⟨_, rfl, ?_⟩
              replace b1 := blk_below b1 l29
              replace L := below_step L l29
              refine E.GL.run rfl rfl rfl (E.Runs.pick_t rfl rfl rfl) ?_
              refine E.GL.run rfl rfl rfl (E.Runs.assign rfl rfl) ?_
              refine E.GL.done ?_
              refine E.QG.code ?_
              refine E.CG.ret ?_
              exact E.QG.result rfl rfl ⟨congrArg (fun x => Ending.returned (Value.bool x)) (by first | exact (h.mpr (by unfold HouseOk; omega)).symm | exact (Bool.eq_false_iff.mpr fun e => by have := h.mp e; unfold HouseOk at this; omega).symm), L⟩
            · refine E.GL.st rfl rfl rfl (E.ST.call rfl ent63 (E.evc rfl (E.evc rfl (E.evc rfl E.evn))) ((span_o H.cl H.ch 1 120 false (iff_of_false Bool.false_ne_true h29) _).mono ?_))
              rintro e w29 ⟨rfl, l29⟩
              refine ⟨_, rfl, ?_⟩
              replace b1 := blk_below b1 l29
              replace L := below_step L l29
              refine E.GL.run rfl rfl rfl (E.Runs.pick_t rfl rfl rfl) ?_
              refine E.GL.run rfl rfl rfl (E.Runs.assign rfl rfl) ?_
              refine E.GL.done ?_
              refine E.QG.code ?_
              refine E.CG.ret ?_
              exact E.QG.result rfl rfl ⟨congrArg (fun x => Ending.returned (Value.bool x)) (by first | exact (h.mpr (by unfold HouseOk; omega)).symm | exact (Bool.eq_false_iff.mpr fun e => by have := h.mp e; unfold HouseOk at this; omega).symm), L⟩
          · refine E.GL.st rfl rfl rfl (E.ST.call rfl ent63 (E.evc rfl (E.evc rfl (E.evc rfl E.evn))) ((span_o H.dl H.dh 1 100 false (iff_of_false Bool.false_ne_true h24) _).mono ?_))
            rintro e w24 ⟨rfl, l24⟩
            refine ⟨_, rfl, ?_⟩
            replace b1 := blk_below b1 l24
            replace L := below_step L l24
            refine E.GL.run rfl rfl rfl (E.Runs.pick_t rfl rfl rfl) ?_
            refine E.GL.run rfl rfl rfl (E.Runs.move rfl rfl) ?_
            refine E.GL.skip rfl rfl rfl ?_
            refine E.GL.skip rfl rfl rfl ?_
            refine E.GL.skip rfl rfl rfl ?_
            refine E.GL.run rfl rfl rfl (E.Runs.pick_f rfl rfl rfl) ?_
            refine E.GL.run rfl rfl rfl (E.Runs.assign rfl rfl) ?_
            refine E.GL.done ?_
            refine E.QG.code ?_
            refine E.CG.ret ?_
            exact E.QG.result rfl rfl ⟨congrArg (fun x => Ending.returned (Value.bool x)) (by first | exact (h.mpr (by unfold HouseOk; omega)).symm | exact (Bool.eq_false_iff.mpr fun e => by have := h.mp e; unfold HouseOk at this; omega).symm), L⟩
        · refine E.GL.st rfl rfl rfl (E.ST.call rfl ent52 (E.evc rfl (E.evc rfl (E.evc rfl E.evn))) ((within_o H.foyer 0 5000 false (iff_of_false Bool.false_ne_true h19) _).mono ?_))
          rintro e w19 ⟨rfl, l19⟩
          refine ⟨_, rfl, ?_⟩
          replace b1 := blk_below b1 l19
          replace L := below_step L l19
          refine E.GL.run rfl rfl rfl (E.Runs.pick_t rfl rfl rfl) ?_
          refine E.GL.run rfl rfl rfl (E.Runs.move rfl rfl) ?_
          refine E.GL.skip rfl rfl rfl ?_
          refine E.GL.skip rfl rfl rfl ?_
          refine E.GL.skip rfl rfl rfl ?_
          refine E.GL.run rfl rfl rfl (E.Runs.pick_f rfl rfl rfl) ?_
          refine E.GL.run rfl rfl rfl (E.Runs.move rfl rfl) ?_
          refine E.GL.skip rfl rfl rfl ?_
          refine E.GL.skip rfl rfl rfl ?_
          refine E.GL.skip rfl rfl rfl ?_
          refine E.GL.run rfl rfl rfl (E.Runs.pick_f rfl rfl rfl) ?_
          refine E.GL.run rfl rfl rfl (E.Runs.assign rfl rfl) ?_
          refine E.GL.done ?_
          refine E.QG.code ?_
          refine E.CG.ret ?_
          exact E.QG.result rfl rfl ⟨congrArg (fun x => Ending.returned (Value.bool x)) (by first | exact (h.mpr (by unfold HouseOk; omega)).symm | exact (Bool.eq_false_iff.mpr fun e => by have := h.mp e; unfold HouseOk at this; omega).symm), L⟩
      · refine E.GL.st rfl rfl rfl (E.ST.call rfl ent52 (E.evc rfl (E.evc rfl (E.evc rfl E.evn))) ((within_o H.early 0 120 false (iff_of_false Bool.false_ne_true h14) _).mono ?_))
        rintro e w14 ⟨rfl, l14⟩
        refine ⟨_, rfl, ?_⟩
        replace b1 := blk_below b1 l14
        replace L := below_step L l14
        refine E.GL.run rfl rfl rfl (E.Runs.pick_t rfl rfl rfl) ?_
        refine E.GL.run rfl rfl rfl (E.Runs.move rfl rfl) ?_
        refine E.GL.skip rfl rfl rfl ?_
        refine E.GL.skip rfl rfl rfl ?_
        refine E.GL.skip rfl rfl rfl ?_
        refine E.GL.run rfl rfl rfl (E.Runs.pick_f rfl rfl rfl) ?_
        refine E.GL.run rfl rfl rfl (E.Runs.move rfl rfl) ?_
        refine E.GL.skip rfl rfl rfl ?_
        refine E.GL.skip rfl rfl rfl ?_
        refine E.GL.skip rfl rfl rfl ?_
        refine E.GL.run rfl rfl rfl (E.Runs.pick_f rfl rfl rfl) ?_
        refine E.GL.run rfl rfl rfl (E.Runs.move rfl rfl) ?_
        refine E.GL.skip rfl rfl rfl ?_
        refine E.GL.skip rfl rfl rfl ?_
        refine E.GL.skip rfl rfl rfl ?_
        refine E.GL.run rfl rfl rfl (E.Runs.pick_f rfl rfl rfl) ?_
        refine E.GL.run rfl rfl rfl (E.Runs.assign rfl rfl) ?_
        refine E.GL.done ?_
        refine E.QG.code ?_
        refine E.CG.ret ?_
        exact E.QG.result rfl rfl ⟨congrArg (fun x => Ending.returned (Value.bool x)) (by first | exact (h.mpr (by unfold HouseOk; omega)).symm | exact (Bool.eq_false_iff.mpr fun e => by have := h.mp e; unfold HouseOk at this; omega).symm), L⟩
    · refine E.GL.st rfl rfl rfl (E.ST.call rfl ent52 (E.evc rfl (E.evc rfl (E.evc rfl E.evn))) ((within_o H.walk 0 60 false (iff_of_false Bool.false_ne_true h9) _).mono ?_))
      rintro e w9 ⟨rfl, l9⟩
      refine ⟨_, rfl, ?_⟩
      replace b1 := blk_below b1 l9
      replace L := below_step L l9
      refine E.GL.run rfl rfl rfl (E.Runs.pick_t rfl rfl rfl) ?_
      refine E.GL.run rfl rfl rfl (E.Runs.move rfl rfl) ?_
      refine E.GL.skip rfl rfl rfl ?_
      refine E.GL.skip rfl rfl rfl ?_
      refine E.GL.skip rfl rfl rfl ?_
      refine E.GL.run rfl rfl rfl (E.Runs.pick_f rfl rfl rfl) ?_
      refine E.GL.run rfl rfl rfl (E.Runs.move rfl rfl) ?_
      refine E.GL.skip rfl rfl rfl ?_
      refine E.GL.skip rfl rfl rfl ?_
      refine E.GL.skip rfl rfl rfl ?_
      refine E.GL.run rfl rfl rfl (E.Runs.pick_f rfl rfl rfl) ?_
      refine E.GL.run rfl rfl rfl (E.Runs.move rfl rfl) ?_
      refine E.GL.skip rfl rfl rfl ?_
      refine E.GL.skip rfl rfl rfl ?_
      refine E.GL.skip rfl rfl rfl ?_
      refine E.GL.run rfl rfl rfl (E.Runs.pick_f rfl rfl rfl) ?_
      refine E.GL.run rfl rfl rfl (E.Runs.move rfl rfl) ?_
      refine E.GL.skip rfl rfl rfl ?_
      refine E.GL.skip rfl rfl rfl ?_
      refine E.GL.skip rfl rfl rfl ?_
      refine E.GL.run rfl rfl rfl (E.Runs.pick_f rfl rfl rfl) ?_
      refine E.GL.run rfl rfl rfl (E.Runs.assign rfl rfl) ?_
      refine E.GL.done ?_
      refine E.QG.code ?_
      refine E.CG.ret ?_
      exact E.QG.result rfl rfl ⟨congrArg (fun x => Ending.returned (Value.bool x)) (by first | exact (h.mpr (by unfold HouseOk; omega)).symm | exact (Bool.eq_false_iff.mpr fun e => by have := h.mp e; unfold HouseOk at this; omega).symm), L⟩
  · refine E.GL.st rfl rfl rfl (E.ST.call rfl ent52 (E.evc rfl (E.evc rfl (E.evc rfl E.evn))) ((within_o H.teams 1 4 false (iff_of_false Bool.false_ne_true h5) _).mono ?_))
    rintro e w5 ⟨rfl, l5⟩
    refine ⟨_, rfl, ?_⟩
    replace b1 := blk_below b1 l5
    replace L := below_step L l5
    refine E.GL.run rfl rfl rfl (E.Runs.move rfl rfl) ?_
    refine E.GL.skip rfl rfl rfl ?_
    refine E.GL.skip rfl rfl rfl ?_
    refine E.GL.skip rfl rfl rfl ?_
    refine E.GL.run rfl rfl rfl (E.Runs.pick_f rfl rfl rfl) ?_
    refine E.GL.run rfl rfl rfl (E.Runs.move rfl rfl) ?_
    refine E.GL.skip rfl rfl rfl ?_
    refine E.GL.skip rfl rfl rfl ?_
    refine E.GL.skip rfl rfl rfl ?_
    refine E.GL.run rfl rfl rfl (E.Runs.pick_f rfl rfl rfl) ?_
    refine E.GL.run rfl rfl rfl (E.Runs.move rfl rfl) ?_
    refine E.GL.skip rfl rfl rfl ?_
    refine E.GL.skip rfl rfl rfl ?_
    refine E.GL.skip rfl rfl rfl ?_
    refine E.GL.run rfl rfl rfl (E.Runs.pick_f rfl rfl rfl) ?_
    refine E.GL.run rfl rfl rfl (E.Runs.move rfl rfl) ?_
    refine E.GL.skip rfl rfl rfl ?_
    refine E.GL.skip rfl rfl rfl ?_
    refine E.GL.skip rfl rfl rfl ?_
    refine E.GL.run rfl rfl rfl (E.Runs.pick_f rfl rfl rfl) ?_
    refine E.GL.run rfl rfl rfl (E.Runs.move rfl rfl) ?_
    refine E.GL.skip rfl rfl rfl ?_
    refine E.GL.skip rfl rfl rfl ?_
    refine E.GL.skip rfl rfl rfl ?_
    refine E.GL.run rfl rfl rfl (E.Runs.pick_f rfl rfl rfl) ?_
    refine E.GL.run rfl rfl rfl (E.Runs.assign rfl rfl) ?_
    refine E.GL.done ?_
    refine E.QG.code ?_
    refine E.CG.ret ?_
    exact E.QG.result rfl rfl ⟨congrArg (fun x => Ending.returned (Value.bool x)) (by first | exact (h.mpr (by unfold HouseOk; omega)).symm | exact (Bool.eq_false_iff.mpr fun e => by have := h.mp e; unfold HouseOk at this; omega).symm), L⟩

set_option maxRecDepth 100000 in
set_option maxHeartbeats 4000000 in

theorem house_r (H : Hs) (b : Bool) (h : b = true ↔ HouseOk H) (w : World) :
    Calls Try.prog 49 #[hv H] w fun e w' => e = .returned (.bool b) ∧ Below w.heap.size w w' := by
  have hu3 := Try.underlying3
  have hu23 := Try.underlying23
  have hu25 := Try.underlying25
  obtain ⟨z3, o3⟩ := info_some info3s (by decide)
  obtain ⟨z23, o23⟩ := info_some info23s (by decide)
  refine E.enter (N := 31) Try.func49 rfl Try.ntmps49 (args := [hv H]) (by simp) ?_
  have L := Below.refl w.heap.size w
  refine E.CG.seq ?_
  refine E.CG.list ?_
  refine E.GL.st rfl rfl rfl (E.ST.box rfl rfl fun g1 w1 e1 b1 l1 => ?_)
  have h1_L : w.heap.size ≤ g1 := by rw [e1]; exact L.size
  replace L := below_step L l1
  refine E.GL.run rfl rfl rfl (E.Runs.assign rfl rfl) ?_
  refine E.GL.done ?_
  refine E.QG.code ?_
  refine E.CG.seq ?_
  refine E.CG.list ?_
  refine E.GL.run rfl rfl rfl (E.Runs.fieldAddr rfl rfl hu25 rfl (by assumption) rfl) ?_
  refine E.GL.run rfl rfl rfl (E.Runs.load rfl rfl hu3 (by first | assumption | exact E.blkc (by assumption) rfl | exact pw_cell_below L (by assumption))) ?_
  by_cases h5 : 1 ≤ H.teams ∧ H.teams ≤ 4
  · refine E.GL.st rfl rfl rfl (E.ST.call rfl ent44 (E.evc rfl (E.evc rfl (E.evc rfl E.evn))) ((within_row H.teams 1 4 true (iff_of_true rfl h5) _).mono ?_))
    rintro e w5 ⟨rfl, l5⟩
    refine ⟨_, rfl, ?_⟩
    replace b1 := blk_below b1 l5
    replace L := below_step L l5
    refine E.GL.run rfl rfl rfl (E.Runs.move rfl rfl) ?_
    refine E.GL.run rfl rfl rfl (E.Runs.fieldAddr rfl rfl hu25 rfl (by assumption) rfl) ?_
    refine E.GL.run rfl rfl rfl (E.Runs.load rfl rfl hu3 (by first | assumption | exact E.blkc (by assumption) rfl | exact pw_cell_below L (by assumption))) ?_
    by_cases h9 : 0 ≤ H.walk ∧ H.walk ≤ 60
    · refine E.GL.st rfl rfl rfl (E.ST.call rfl ent44 (E.evc rfl (E.evc rfl (E.evc rfl E.evn))) ((within_row H.walk 0 60 true (iff_of_true rfl h9) _).mono ?_))
      rintro e w9 ⟨rfl, l9⟩
      refine ⟨_, rfl, ?_⟩
      replace b1 := blk_below b1 l9
      replace L := below_step L l9
      refine E.GL.run rfl rfl rfl (E.Runs.pick_t rfl rfl rfl) ?_
      refine E.GL.run rfl rfl rfl (E.Runs.move rfl rfl) ?_
      refine E.GL.run rfl rfl rfl (E.Runs.fieldAddr rfl rfl hu25 rfl (by assumption) rfl) ?_
      refine E.GL.run rfl rfl rfl (E.Runs.load rfl rfl hu3 (by first | assumption | exact E.blkc (by assumption) rfl | exact pw_cell_below L (by assumption))) ?_
      by_cases h14 : 0 ≤ H.early ∧ H.early ≤ 120
      · refine E.GL.st rfl rfl rfl (E.ST.call rfl ent44 (E.evc rfl (E.evc rfl (E.evc rfl E.evn))) ((within_row H.early 0 120 true (iff_of_true rfl h14) _).mono ?_))
        rintro e w14 ⟨rfl, l14⟩
        refine ⟨_, rfl, ?_⟩
        replace b1 := blk_below b1 l14
        replace L := below_step L l14
        refine E.GL.run rfl rfl rfl (E.Runs.pick_t rfl rfl rfl) ?_
        refine E.GL.run rfl rfl rfl (E.Runs.move rfl rfl) ?_
        refine E.GL.run rfl rfl rfl (E.Runs.fieldAddr rfl rfl hu25 rfl (by assumption) rfl) ?_
        refine E.GL.run rfl rfl rfl (E.Runs.load rfl rfl hu3 (by first | assumption | exact E.blkc (by assumption) rfl | exact pw_cell_below L (by assumption))) ?_
        by_cases h19 : 0 ≤ H.foyer ∧ H.foyer ≤ 5000
        · refine E.GL.st rfl rfl rfl (E.ST.call rfl ent44 (E.evc rfl (E.evc rfl (E.evc rfl E.evn))) ((within_row H.foyer 0 5000 true (iff_of_true rfl h19) _).mono ?_))
          rintro e w19 ⟨rfl, l19⟩
          refine ⟨_, rfl, ?_⟩
          replace b1 := blk_below b1 l19
          replace L := below_step L l19
          refine E.GL.run rfl rfl rfl (E.Runs.pick_t rfl rfl rfl) ?_
          refine E.GL.run rfl rfl rfl (E.Runs.move rfl rfl) ?_
          refine E.GL.run rfl rfl rfl (E.Runs.fieldAddr rfl rfl hu25 rfl (by assumption) rfl) ?_
          refine E.GL.run rfl rfl rfl (E.Runs.loads (cs := [.int .i64 H.dl, .int .i64 H.dh]) rfl rfl hu23 rfl info23s (E.blks b1 4 rfl)) ?_
          by_cases h24 : 1 ≤ H.dl ∧ H.dl ≤ H.dh ∧ H.dh ≤ 100
          · refine E.GL.st rfl rfl rfl (E.ST.call rfl ent45 (E.evc rfl (E.evc rfl (E.evc rfl E.evn))) ((span_r H.dl H.dh 1 100 true (iff_of_true rfl h24) _).mono ?_))
            rintro e w24 ⟨rfl, l24⟩
            refine ⟨_, rfl, ?_⟩
            replace b1 := blk_below b1 l24
            replace L := below_step L l24
            refine E.GL.run rfl rfl rfl (E.Runs.pick_t rfl rfl rfl) ?_
            refine E.GL.run rfl rfl rfl (E.Runs.move rfl rfl) ?_
            refine E.GL.run rfl rfl rfl (E.Runs.fieldAddr rfl rfl hu25 rfl (by assumption) rfl) ?_
            refine E.GL.run rfl rfl rfl (E.Runs.loads (cs := [.int .i64 H.cl, .int .i64 H.ch]) rfl rfl hu23 rfl info23s (E.blks b1 6 rfl)) ?_
            by_cases h29 : 1 ≤ H.cl ∧ H.cl ≤ H.ch ∧ H.ch ≤ 120
            · refine E.GL.st rfl rfl rfl (E.ST.call rfl ent45 (E.evc rfl (E.evc rfl (E.evc rfl E.evn))) ((span_r H.cl H.ch 1 120 true (iff_of_true rfl h29) _).mono ?_))
              rintro e w29 ⟨rfl, l29⟩
              refine ⟨_, rfl, ?_⟩
              replace b1 := blk_below b1 l29
              replace L := below_step L l29
              refine E.GL.run rfl rfl rfl (E.Runs.pick_t rfl rfl rfl) ?_
              refine E.GL.run rfl rfl rfl (E.Runs.assign rfl rfl) ?_
              refine E.GL.done ?_
              refine E.QG.code ?_
              refine E.CG.ret ?_
              exact E.QG.result rfl rfl ⟨congrArg (fun x => Ending.returned (Value.bool x)) (by first | exact (h.mpr (by unfold HouseOk; omega)).symm | exact (Bool.eq_false_iff.mpr fun e => by have := h.mp e; unfold HouseOk at this; omega).symm), L⟩
            · refine E.GL.st rfl rfl rfl (E.ST.call rfl ent45 (E.evc rfl (E.evc rfl (E.evc rfl E.evn))) ((span_r H.cl H.ch 1 120 false (iff_of_false Bool.false_ne_true h29) _).mono ?_))
              rintro e w29 ⟨rfl, l29⟩
              refine ⟨_, rfl, ?_⟩
              replace b1 := blk_below b1 l29
              replace L := below_step L l29
              refine E.GL.run rfl rfl rfl (E.Runs.pick_t rfl rfl rfl) ?_
              refine E.GL.run rfl rfl rfl (E.Runs.assign rfl rfl) ?_
              refine E.GL.done ?_
              refine E.QG.code ?_
              refine E.CG.ret ?_
              exact E.QG.result rfl rfl ⟨congrArg (fun x => Ending.returned (Value.bool x)) (by first | exact (h.mpr (by unfold HouseOk; omega)).symm | exact (Bool.eq_false_iff.mpr fun e => by have := h.mp e; unfold HouseOk at this; omega).symm), L⟩
          · refine E.GL.st rfl rfl rfl (E.ST.call rfl ent45 (E.evc rfl (E.evc rfl (E.evc rfl E.evn))) ((span_r H.dl H.dh 1 100 false (iff_of_false Bool.false_ne_true h24) _).mono ?_))
            rintro e w24 ⟨rfl, l24⟩
            refine ⟨_, rfl, ?_⟩
            replace b1 := blk_below b1 l24
            replace L := below_step L l24
            refine E.GL.run rfl rfl rfl (E.Runs.pick_t rfl rfl rfl) ?_
            refine E.GL.run rfl rfl rfl (E.Runs.move rfl rfl) ?_
            refine E.GL.skip rfl rfl rfl ?_
            refine E.GL.skip rfl rfl rfl ?_
            refine E.GL.skip rfl rfl rfl ?_
            refine E.GL.run rfl rfl rfl (E.Runs.pick_f rfl rfl rfl) ?_
            refine E.GL.run rfl rfl rfl (E.Runs.assign rfl rfl) ?_
            refine E.GL.done ?_
            refine E.QG.code ?_
            refine E.CG.ret ?_
            exact E.QG.result rfl rfl ⟨congrArg (fun x => Ending.returned (Value.bool x)) (by first | exact (h.mpr (by unfold HouseOk; omega)).symm | exact (Bool.eq_false_iff.mpr fun e => by have := h.mp e; unfold HouseOk at this; omega).symm), L⟩
        · refine E.GL.st rfl rfl rfl (E.ST.call rfl ent44 (E.evc rfl (E.evc rfl (E.evc rfl E.evn))) ((within_row H.foyer 0 5000 false (iff_of_false Bool.false_ne_true h19) _).mono ?_))
          rintro e w19 ⟨rfl, l19⟩
          refine ⟨_, rfl, ?_⟩
          replace b1 := blk_below b1 l19
          replace L := below_step L l19
          refine E.GL.run rfl rfl rfl (E.Runs.pick_t rfl rfl rfl) ?_
          refine E.GL.run rfl rfl rfl (E.Runs.move rfl rfl) ?_
          refine E.GL.skip rfl rfl rfl ?_
          refine E.GL.skip rfl rfl rfl ?_
          refine E.GL.skip rfl rfl rfl ?_
          refine E.GL.run rfl rfl rfl (E.Runs.pick_f rfl rfl rfl) ?_
          refine E.GL.run rfl rfl rfl (E.Runs.move rfl rfl) ?_
          refine E.GL.skip rfl rfl rfl ?_
          refine E.GL.skip rfl rfl rfl ?_
          refine E.GL.skip rfl rfl rfl ?_
          refine E.GL.run rfl rfl rfl (E.Runs.pick_f rfl rfl rfl) ?_
          refine E.GL.run rfl rfl rfl (E.Runs.assign rfl rfl) ?_
          refine E.GL.done ?_
          refine E.QG.code ?_
          refine E.CG.ret ?_
          exact E.QG.result rfl rfl ⟨congrArg (fun x => Ending.returned (Value.bool x)) (by first | exact (h.mpr (by unfold HouseOk; omega)).symm | exact (Bool.eq_false_iff.mpr fun e => by have := h.mp e; unfold HouseOk at this; omega).symm), L⟩
      · refine E.GL.st rfl rfl rfl (E.ST.call rfl ent44 (E.evc rfl (E.evc rfl (E.evc rfl E.evn))) ((within_row H.early 0 120 false (iff_of_false Bool.false_ne_true h14) _).mono ?_))
        rintro e w14 ⟨rfl, l14⟩
        refine ⟨_, rfl, ?_⟩
        replace b1 := blk_below b1 l14
        replace L := below_step L l14
        refine E.GL.run rfl rfl rfl (E.Runs.pick_t rfl rfl rfl) ?_
        refine E.GL.run rfl rfl rfl (E.Runs.move rfl rfl) ?_
        refine E.GL.skip rfl rfl rfl ?_
        refine E.GL.skip rfl rfl rfl ?_
        refine E.GL.skip rfl rfl rfl ?_
        refine E.GL.run rfl rfl rfl (E.Runs.pick_f rfl rfl rfl) ?_
        refine E.GL.run rfl rfl rfl (E.Runs.move rfl rfl) ?_
        refine E.GL.skip rfl rfl rfl ?_
        refine E.GL.skip rfl rfl rfl ?_
        refine E.GL.skip rfl rfl rfl ?_
        refine E.GL.run rfl rfl rfl (E.Runs.pick_f rfl rfl rfl) ?_
        refine E.GL.run rfl rfl rfl (E.Runs.move rfl rfl) ?_
        refine E.GL.skip rfl rfl rfl ?_
        refine E.GL.skip rfl rfl rfl ?_
        refine E.GL.skip rfl rfl rfl ?_
        refine E.GL.run rfl rfl rfl (E.Runs.pick_f rfl rfl rfl) ?_
        refine E.GL.run rfl rfl rfl (E.Runs.assign rfl rfl) ?_
        refine E.GL.done ?_
        refine E.QG.code ?_
        refine E.CG.ret ?_
        exact E.QG.result rfl rfl ⟨congrArg (fun x => Ending.returned (Value.bool x)) (by first | exact (h.mpr (by unfold HouseOk; omega)).symm | exact (Bool.eq_false_iff.mpr fun e => by have := h.mp e; unfold HouseOk at this; omega).symm), L⟩
    · refine E.GL.st rfl rfl rfl (E.ST.call rfl ent44 (E.evc rfl (E.evc rfl (E.evc rfl E.evn))) ((within_row H.walk 0 60 false (iff_of_false Bool.false_ne_true h9) _).mono ?_))
      rintro e w9 ⟨rfl, l9⟩
      refine ⟨_, rfl, ?_⟩
      replace b1 := blk_below b1 l9
      replace L := below_step L l9
      refine E.GL.run rfl rfl rfl (E.Runs.pick_t rfl rfl rfl) ?_
      refine E.GL.run rfl rfl rfl (E.Runs.move rfl rfl) ?_
      refine E.GL.skip rfl rfl rfl ?_
      refine E.GL.skip rfl rfl rfl ?_
      refine E.GL.skip rfl rfl rfl ?_
      refine E.GL.run rfl rfl rfl (E.Runs.pick_f rfl rfl rfl) ?_
      refine E.GL.run rfl rfl rfl (E.Runs.move rfl rfl) ?_
      refine E.GL.skip rfl rfl rfl ?_
      refine E.GL.skip rfl rfl rfl ?_
      refine E.GL.skip rfl rfl rfl ?_
      refine E.GL.run rfl rfl rfl (E.Runs.pick_f rfl rfl rfl) ?_
      refine E.GL.run rfl rfl rfl (E.Runs.move rfl rfl) ?_
      refine E.GL.skip rfl rfl rfl ?_
      refine E.GL.skip rfl rfl rfl ?_
      refine E.GL.skip rfl rfl rfl ?_
      refine E.GL.run rfl rfl rfl (E.Runs.pick_f rfl rfl rfl) ?_
      refine E.GL.run rfl rfl rfl (E.Runs.move rfl rfl) ?_
      refine E.GL.skip rfl rfl rfl ?_
      refine E.GL.skip rfl rfl rfl ?_
      refine E.GL.skip rfl rfl rfl ?_
      refine E.GL.run rfl rfl rfl (E.Runs.pick_f rfl rfl rfl) ?_
      refine E.GL.run rfl rfl rfl (E.Runs.assign rfl rfl) ?_
      refine E.GL.done ?_
      refine E.QG.code ?_
      refine E.CG.ret ?_
      exact E.QG.result rfl rfl ⟨congrArg (fun x => Ending.returned (Value.bool x)) (by first | exact (h.mpr (by unfold HouseOk; omega)).symm | exact (Bool.eq_false_iff.mpr fun e => by have := h.mp e; unfold HouseOk at this; omega).symm), L⟩
  · refine E.GL.st rfl rfl rfl (E.ST.call rfl ent44 (E.evc rfl (E.evc rfl (E.evc rfl E.evn))) ((within_row H.teams 1 4 false (iff_of_false Bool.false_ne_true h5) _).mono ?_))
    rintro e w5 ⟨rfl, l5⟩
    refine ⟨_, rfl, ?_⟩
    replace b1 := blk_below b1 l5
    replace L := below_step L l5
    refine E.GL.run rfl rfl rfl (E.Runs.move rfl rfl) ?_
    refine E.GL.skip rfl rfl rfl ?_
    refine E.GL.skip rfl rfl rfl ?_
    refine E.GL.skip rfl rfl rfl ?_
    refine E.GL.run rfl rfl rfl (E.Runs.pick_f rfl rfl rfl) ?_
    refine E.GL.run rfl rfl rfl (E.Runs.move rfl rfl) ?_
    refine E.GL.skip rfl rfl rfl ?_
    refine E.GL.skip rfl rfl rfl ?_
    refine E.GL.skip rfl rfl rfl ?_
    refine E.GL.run rfl rfl rfl (E.Runs.pick_f rfl rfl rfl) ?_
    refine E.GL.run rfl rfl rfl (E.Runs.move rfl rfl) ?_
    refine E.GL.skip rfl rfl rfl ?_
    refine E.GL.skip rfl rfl rfl ?_
    refine E.GL.skip rfl rfl rfl ?_
    refine E.GL.run rfl rfl rfl (E.Runs.pick_f rfl rfl rfl) ?_
    refine E.GL.run rfl rfl rfl (E.Runs.move rfl rfl) ?_
    refine E.GL.skip rfl rfl rfl ?_
    refine E.GL.skip rfl rfl rfl ?_
    refine E.GL.skip rfl rfl rfl ?_
    refine E.GL.run rfl rfl rfl (E.Runs.pick_f rfl rfl rfl) ?_
    refine E.GL.run rfl rfl rfl (E.Runs.move rfl rfl) ?_
    refine E.GL.skip rfl rfl rfl ?_
    refine E.GL.skip rfl rfl rfl ?_
    refine E.GL.skip rfl rfl rfl ?_
    refine E.GL.run rfl rfl rfl (E.Runs.pick_f rfl rfl rfl) ?_
    refine E.GL.run rfl rfl rfl (E.Runs.assign rfl rfl) ?_
    refine E.GL.done ?_
    refine E.QG.code ?_
    refine E.CG.ret ?_
    exact E.QG.result rfl rfl ⟨congrArg (fun x => Ending.returned (Value.bool x)) (by first | exact (h.mpr (by unfold HouseOk; omega)).symm | exact (Bool.eq_false_iff.mpr fun e => by have := h.mp e; unfold HouseOk at this; omega).symm), L⟩

set_option maxRecDepth 100000 in
set_option maxHeartbeats 4000000 in

theorem comes_calls (H : Hs) (s : S36) (w : World) (h0 : 0 ≤ H.early) (h1 : H.early ≤ 1000) (h2 : 0 ≤ s.f1) (h3 : s.f1 ≤ 10000) :
    Calls Try.prog 54 #[hv H, sv s] w fun e w' => e = .returned (.int .i64 (max 0 (s.f1 - H.early))) ∧ Below w.heap.size w w' := by
  have hu3 := Try.underlying3
  have hu25 := Try.underlying25
  have hu36 := Try.underlying36
  obtain ⟨z3, o3⟩ := info_some info3s (by decide)
  refine E.enter (N := 11) Try.func54 rfl Try.ntmps54 (args := [hv H, sv s]) (by simp) ?_
  have L := Below.refl w.heap.size w
  refine E.CG.seq ?_
  refine E.CG.list ?_
  refine E.GL.st rfl rfl rfl (E.ST.box rfl rfl fun g2 w2 e2 b2 l2 => ?_)
  have h2_L : w.heap.size ≤ g2 := by rw [e2]; exact L.size
  replace L := below_step L l2
  refine E.GL.st rfl rfl rfl (E.ST.box rfl rfl fun g3 w3 e3 b3 l3 => ?_)
  have h3_L : w.heap.size ≤ g3 := by rw [e3]; exact L.size
  have n3_b2 : g2 ≠ g3 := by have := blk_lt b2; omega
  replace b2 := blk_below b2 l3
  replace L := below_step L l3
  refine E.GL.run rfl rfl rfl (E.Runs.assign rfl rfl) ?_
  refine E.GL.done ?_
  refine E.QG.code ?_
  refine E.CG.seq ?_
  refine E.CG.list ?_
  refine E.GL.run rfl rfl rfl (E.Runs.fieldAddr rfl rfl hu36 rfl (by assumption) rfl) ?_
  refine E.GL.run rfl rfl rfl (E.Runs.load rfl rfl hu3 (by first | assumption | exact E.blkc (by assumption) rfl | exact pw_cell_below L (by assumption))) ?_
  refine E.GL.run rfl rfl rfl (E.Runs.fieldAddr rfl rfl hu25 rfl (by assumption) rfl) ?_
  refine E.GL.run rfl rfl rfl (E.Runs.load rfl rfl hu3 (by first | assumption | exact E.blkc (by assumption) rfl | exact pw_cell_below L (by assumption))) ?_
  refine E.GL.run rfl rfl rfl (E.Runs.sub rfl rfl rfl (IntWalk.i64_in _ (by omega))) ?_
  refine E.GL.run rfl rfl rfl (E.Runs.max rfl rfl rfl (show mx 0 (s.f1 - H.early) = max 0 (s.f1 - H.early) by unfold mx; split <;> omega)) ?_
  refine E.GL.run rfl rfl rfl (E.Runs.assign rfl rfl) ?_
  refine E.GL.done ?_
  refine E.QG.code ?_
  refine E.CG.ret ?_
  exact E.QG.result rfl rfl ⟨rfl, L⟩

theorem rd36_last (l : List S36) (h : 0 < l.length) : rd_T36 l ((l.length : Int) - 1) = l[l.length - 1] := by
  rw [show (l.length : Int) - 1 = ((l.length - 1 : Nat) : Int) by omega, rd36 l _ (by omega)]
set_option maxRecDepth 100000 in
set_option maxHeartbeats 4000000 in

theorem follows_o (l : List S36) (s : S36) (A1 : Option Addr) (c1 : Nat) (b : Bool) (h : b = true ↔ FollowsOk l s) (w : World) (hn : l.length ≤ 1000000) (hr : Kd.C k36 w A1 l.length l) (hc : l.length ≤ c1) :
    Calls Try.prog 47 #[.slice A1 l.length c1, sv s] w fun e w' => e = .returned (.bool b) ∧ Below w.heap.size w w' := by
  have hu3 := Try.underlying3
  have hu26 := Try.underlying26
  have hu36 := Try.underlying36
  obtain ⟨z3, o3⟩ := info_some info3s (by decide)
  obtain ⟨z36, o36⟩ := info_some info36s (by decide)
  refine E.enter (N := 47) Try.func47 rfl Try.ntmps47 (args := [.slice A1 l.length c1, sv s]) (by simp) ?_
  have L := Below.refl w.heap.size w
  refine E.CG.seq ?_
  refine E.CG.list ?_
  refine E.GL.st rfl rfl rfl (E.ST.box rfl rfl fun g3 w3 e3 b3 l3 => ?_)
  have h3_L : w.heap.size ≤ g3 := by rw [e3]; exact L.size
  replace L := below_step L l3
  refine E.GL.run rfl rfl rfl (E.Runs.assign rfl rfl) ?_
  refine E.GL.done ?_
  refine E.QG.code ?_
  refine E.CG.seq ?_
  refine E.CG.seq ?_
  refine E.CG.heldH (none) (by kernel_rfl) fun v1 lD hh => ?_
  replace b3 := blk_below b3 lD
  replace L := below_step L lD
  clear lD
  have s_b3 := b3
  have s_L := L
  refine E.GH.take (i := 0) rfl (by kernel_rfl) (by kernel_rfl) (by kernel_rfl) (by intro c a d v w h; cases d <;> exact h) rfl rfl rfl (fun w' hS => (E.Runs.fieldAddr rfl rfl hu36 rfl (by assumption) rfl)) ?_
  refine E.GH.take (i := 1) rfl (by kernel_rfl) (by kernel_rfl) (by kernel_rfl) (by intro c a d v w h; cases d <;> exact h) rfl rfl rfl (fun w' hS => (E.Runs.load rfl rfl hu3 (by first | exact E.keeps hS (E.blkc (by assumption) rfl) (by first | exact E.nen | exact E.nes (by assumption) | exact E.nes (Ne.symm (by assumption))) | exact pw_cell_below (below_step s_L (E.belowG hS)) (by assumption)))) ?_
  by_cases h9 : 0 ≤ s.f1 ∧ s.f1 ≤ 2000
  · refine E.GH.one (i := 2) (by kernel_rfl) rfl ?_
    refine E.GO.st rfl rfl rfl (E.ST.call rfl ent52 (E.evc rfl (E.evc rfl (E.evc rfl E.evn))) ((within_o s.f1 0 2000 true (iff_of_true rfl h9) _).mono ?_))
    rintro e w9 ⟨rfl, l9⟩
    refine ⟨_, rfl, hh.trans (E.gbB l9), ?_⟩
    replace hh := hh.trans (E.gbB l9)
    replace b3 := blk_below b3 l9
    replace L := below_step L l9
    refine E.GH.take (i := 3) rfl (by kernel_rfl) (by kernel_rfl) (by kernel_rfl) (by intro c a d v w h; cases d <;> exact h) rfl rfl rfl (fun w' hS => (E.Runs.not rfl rfl)) ?_
    refine E.GH.take (i := 4) rfl (by kernel_rfl) (by kernel_rfl) (by kernel_rfl) (by intro c a d v w h; cases d <;> exact h) rfl rfl rfl (fun w' hS => (E.Runs.move rfl rfl)) ?_
    refine E.GH.take (i := 5) rfl (by kernel_rfl) (by kernel_rfl) (by kernel_rfl) (by intro c a d v w h; cases d <;> exact h) rfl rfl rfl (fun w' hS => (E.Runs.move rfl rfl)) ?_
    refine E.GH.take (i := 6) rfl (by kernel_rfl) (by kernel_rfl) (by kernel_rfl) (by intro c a d v w h; cases d <;> exact h) rfl rfl rfl (fun w' hS => (E.Runs.len rfl rfl hu26)) ?_
    refine E.GH.cmp (i := 7) rfl (by kernel_rfl) (by kernel_rfl) (by kernel_rfl) (by intro c a d v w h; cases d <;> exact h) rfl rfl rfl (fun _ h w' hS => (E.Runs.gtr rfl rfl rfl h)) (fun h14 => ?_) (fun h14 => ?_)
    · have hpos : 0 < l.length := by omega
      obtain ⟨z, hz⟩ : ∃ z, l[l.length - 1]? = some z := ⟨_, List.getElem?_eq_getElem (by omega)⟩
      have hz' : rd_T36 l ((l.length : Int) - 1) = z := by rw [rd36_last l hpos]; rw [List.getElem?_eq_getElem (by omega)] at hz; exact Option.some.inj hz
      obtain ⟨ad, eA, S⟩ := slot_at hr hz
      have hll : ((l.length - 1 : Nat) : Int) < (l.length : Int) := by omega
      refine E.GH.take (i := 8) rfl (by kernel_rfl) (by kernel_rfl) (by kernel_rfl) (by intro c a d v w h; cases d <;> exact h) rfl rfl rfl (fun w' hS => (E.Runs.move rfl rfl)) ?_
      refine E.GH.take (i := 9) rfl (by kernel_rfl) (by kernel_rfl) (by kernel_rfl) (by intro c a d v w h; cases d <;> exact h) rfl rfl rfl (fun w' hS => (E.Runs.fieldAddr rfl rfl hu36 rfl (by assumption) rfl)) ?_
      refine E.GH.take (i := 10) rfl (by kernel_rfl) (by kernel_rfl) (by kernel_rfl) (by intro c a d v w h; cases d <;> exact h) rfl rfl rfl (fun w' hS => (E.Runs.load rfl rfl hu3 (by first | exact E.keeps hS (E.blkc (by assumption) rfl) (by first | exact E.nen | exact E.nes (by assumption) | exact E.nes (Ne.symm (by assumption))) | exact pw_cell_below (below_step s_L (E.belowG hS)) (by assumption) | exact pw_cell_below (below_step s_L (E.belowG hS)) S.c0 | exact pw_cell_below (below_step s_L (E.belowG hS)) S.c1 | exact pw_cell_below (below_step s_L (E.belowG hS)) S.c2 | exact pw_cell_below (below_step s_L (E.belowG hS)) S.c3 | exact pw_cell_below (below_step s_L (E.belowG hS)) S.c4 | exact pw_cell_below (below_step s_L (E.belowG hS)) S.c5))) ?_
      refine E.GH.take (i := 11) rfl (by kernel_rfl) (by kernel_rfl) (by kernel_rfl) (by intro c a d v w h; cases d <;> exact h) rfl rfl rfl (fun w' hS => (E.Runs.move rfl rfl)) ?_
      refine E.GH.take (i := 12) rfl (by kernel_rfl) (by kernel_rfl) (by kernel_rfl) (by intro c a d v w h; cases d <;> exact h) rfl rfl rfl (fun w' hS => (E.Runs.move rfl rfl)) ?_
      refine E.GH.take (i := 13) rfl (by kernel_rfl) (by kernel_rfl) (by kernel_rfl) (by intro c a d v w h; cases d <;> exact h) rfl rfl rfl (fun w' hS => (E.Runs.len rfl rfl hu26)) ?_
      refine E.GH.take (i := 14) rfl (by kernel_rfl) (by kernel_rfl) (by kernel_rfl) (by intro c a d v w h; cases d <;> exact h) rfl rfl rfl (fun w' hS => (E.Runs.sub rfl rfl rfl (show _ = ((l.length - 1 : Nat) : Int) from by rw [IntWalk.i64_in _ (by omega)]; omega))) ?_
      refine E.GH.take (i := 15) rfl (by kernel_rfl) (by kernel_rfl) (by kernel_rfl) (by intro c a d v w h; cases d <;> exact h) rfl rfl rfl (fun w' hS => (E.Runs.indexAddrA rfl rfl rfl hu26 (by assumption) (by assumption) (by assumption) (by first | rfl | assumption) rfl)) ?_
      refine E.GH.take (i := 16) rfl (by kernel_rfl) (by kernel_rfl) (by kernel_rfl) (by intro c a d v w h; cases d <;> exact h) rfl rfl rfl (fun w' hS => (E.Runs.fieldAddr rfl rfl hu36 rfl (by assumption) rfl)) ?_
      refine E.GH.take (i := 17) rfl (by kernel_rfl) (by kernel_rfl) (by kernel_rfl) (by intro c a d v w h; cases d <;> exact h) rfl rfl rfl (fun w' hS => (E.Runs.load rfl rfl hu3 (by first | exact E.keeps hS (E.blkc (by assumption) rfl) (by first | exact E.nen | exact E.nes (by assumption) | exact E.nes (Ne.symm (by assumption))) | exact pw_cell_below (below_step s_L (E.belowG hS)) (by assumption) | exact pw_cell_below (below_step s_L (E.belowG hS)) S.c0 | exact pw_cell_below (below_step s_L (E.belowG hS)) S.c1 | exact pw_cell_below (below_step s_L (E.belowG hS)) S.c2 | exact pw_cell_below (below_step s_L (E.belowG hS)) S.c3 | exact pw_cell_below (below_step s_L (E.belowG hS)) S.c4 | exact pw_cell_below (below_step s_L (E.belowG hS)) S.c5))) ?_
      refine E.GH.cmp (i := 18) rfl (by kernel_rfl) (by kernel_rfl) (by kernel_rfl) (by intro c a d v w h; cases d <;> exact h) rfl rfl rfl (fun _ h w' hS => (E.Runs.lss rfl rfl rfl h)) (fun h25 => ?_) (fun h25 => ?_)
      · refine E.GH.take (i := 19) rfl (by kernel_rfl) (by kernel_rfl) (by kernel_rfl) (by intro c a d v w h; cases d <;> exact h) rfl rfl rfl (fun w' hS => (E.Runs.pick_t rfl rfl rfl)) ?_
        refine E.GH.take (i := 20) rfl (by kernel_rfl) (by kernel_rfl) (by kernel_rfl) (by intro c a d v w h; cases d <;> exact h) rfl rfl rfl (fun w' hS => (E.Runs.pick_f rfl rfl rfl)) ?_
        refine E.GH.done (by kernel_rfl) ?_
        refine E.QG.code ?_
        refine E.CG.cond_t rfl ?_
        refine E.CG.seq ?_
        refine E.CG.list ?_
        refine E.GL.run rfl rfl rfl (E.Runs.assign rfl rfl) ?_
        refine E.GL.done ?_
        refine E.QG.code ?_
        refine E.CG.ret ?_
        refine E.QG.pass_ret ?_
        exact E.QG.result rfl rfl ⟨congrArg (fun x => Ending.returned (Value.bool x)) (Bool.eq_false_iff.mpr fun e => by have := (h.mp e).2.1 (List.length_pos_iff.mp hpos); rw [hz'] at this; omega).symm, L⟩
      · refine E.GH.take (i := 19) rfl (by kernel_rfl) (by kernel_rfl) (by kernel_rfl) (by intro c a d v w h; cases d <;> exact h) rfl rfl rfl (fun w' hS => (E.Runs.pick_t rfl rfl rfl)) ?_
        refine E.GH.take (i := 20) rfl (by kernel_rfl) (by kernel_rfl) (by kernel_rfl) (by intro c a d v w h; cases d <;> exact h) rfl rfl rfl (fun w' hS => (E.Runs.pick_f rfl rfl rfl)) ?_
        refine E.GH.done (by kernel_rfl) ?_
        refine E.QG.code ?_
        refine E.CG.cond_f rfl ?_
        refine E.CG.skip ?_
        refine E.QG.code ?_
        refine E.CG.seq ?_
        refine E.CG.seq ?_
        have hlast : l ≠ [] → (rd_T36 l ((l.length : Int) - 1)).f1 ≤ s.f1 := by
          intro hne
          first
            | (rw [hz']; omega)
            | (have := List.length_pos_iff.mpr hne; omega)
        refine E.CG.list ?_
        refine E.GL.run rfl rfl rfl (E.Runs.move rfl rfl) ?_
        refine E.GL.run rfl rfl rfl (E.Runs.len rfl rfl hu26) ?_
        refine E.GL.run rfl rfl rfl (E.Runs.move rfl rfl) ?_
        refine E.GL.done ?_
        refine E.QG.code ?_
        refine E.CG.block ?_
        have s4_b3 := b3
        have s4_L := L
        refine E.CG.loop (fun (k : Nat) => [(3, .pointer (some ⟨g3, 0, none⟩)), (28, .slice A1 l.length c1), (29, .int .i64 l.length), (30, .int .i64 k)]) (fun k w' => k ≤ l.length ∧ Below w9.heap.size w9 w' ∧ ∀ (j : Nat) (o : S36), j < k → l[j]? = some o → ¬ (o.f0 = s.f0 ∧ o.f1 = s.f1)) (fun k => l.length - k) 0 (E.subc rfl (E.subc rfl (E.subc rfl (E.subc rfl (E.subn))))) ⟨Nat.zero_le _, Below.refl _ _, fun j o hj => absurd hj (Nat.not_lt_zero _)⟩ ?_
        rintro k w4 ⟨hk, lq, hp⟩
        replace b3 := blk_below b3 lq
        replace L := below_step L lq
        refine E.CG.seq ?_
        refine E.CG.list ?_
        refine E.GL.cmp rfl rfl rfl (fun _ h => (E.Runs.lss rfl rfl rfl h)) (fun h31 => ?_) (fun h31 => ?_)
        · have hlt : k < l.length := by omega
          obtain ⟨o, ho⟩ : ∃ s, l[k]? = some s := ⟨_, List.getElem?_eq_getElem hlt⟩
          obtain ⟨ad, eA, S⟩ := slot_at hr ho
          refine E.GL.done ?_
          refine E.QG.code ?_
          refine E.CG.seq ?_
          refine E.CG.cond_t rfl ?_
          refine E.CG.skip ?_
          refine E.QG.code ?_
          refine E.CG.seq ?_
          refine E.CG.block ?_
          refine E.CG.seq ?_
          refine E.CG.list ?_
          refine E.GL.run rfl rfl rfl (E.Runs.indexAddrA rfl rfl rfl hu26 (by assumption) (by assumption) (by assumption) (by first | rfl | assumption) rfl) ?_
          refine E.GL.run rfl rfl rfl (E.Runs.loads (cs := [.int .i64 o.f0, .int .i64 o.f1, .int .i64 o.f2.f0, .int .i64 o.f2.f1, .int .i64 o.f3, .int .i64 o.f4]) rfl rfl hu36 rfl info36s (E.cellsB L S.cells)) ?_
          refine E.GL.st rfl rfl rfl (E.ST.alloc rfl info36z fun g6 w6 e6 b6 l6 => ?_)
          have h6_L : w.heap.size ≤ g6 := by rw [e6]; exact L.size
          have h6_lq : w9.heap.size ≤ g6 := by rw [e6]; exact lq.size
          have n6_b3 : g3 ≠ g6 := by have := blk_lt b3; omega
          replace b3 := blk_below b3 l6
          replace L := below_step L l6
          replace lq := below_step lq l6
          refine E.GL.store_whole rfl rfl rfl rfl rfl b6 rfl info36s (six_one _ _ _ _ _ _) fun wS5_3 c6 lS5_3 => ?_
          replace b3 := blk_grown b3 lS5_3 (E.nes (by first | assumption | exact Ne.symm (by assumption)))
          replace L := E.below_own L h6_L lS5_3
          replace lq := E.below_own lq h6_lq lS5_3
          replace b6 := c6
          clear c6
          refine E.GL.done ?_
          refine E.QG.code ?_
          refine E.CG.seq ?_
          refine E.CG.list ?_
          refine E.GL.run rfl rfl rfl (E.Runs.fieldAddr rfl rfl hu36 rfl (by assumption) rfl) ?_
          refine E.GL.run rfl rfl rfl (E.Runs.load rfl rfl hu3 (by first | assumption | exact E.blkc (by assumption) rfl | exact pw_cell_below L (by assumption) | exact pw_cell_below lq (by assumption) | exact pw_cell_below L S.c0 | exact pw_cell_below L S.c1 | exact pw_cell_below L S.c2 | exact pw_cell_below L S.c3 | exact pw_cell_below L S.c4 | exact pw_cell_below L S.c5 | exact pw_cell_below L S.c0 | exact pw_cell_below L S.c1 | exact pw_cell_below L S.c2 | exact pw_cell_below L S.c3 | exact pw_cell_below L S.c4 | exact pw_cell_below L S.c5)) ?_
          refine E.GL.run rfl rfl rfl (E.Runs.fieldAddr rfl rfl hu36 rfl (by assumption) rfl) ?_
          refine E.GL.run rfl rfl rfl (E.Runs.load rfl rfl hu3 (by first | assumption | exact E.blkc (by assumption) rfl | exact pw_cell_below L (by assumption) | exact pw_cell_below lq (by assumption) | exact pw_cell_below L S.c0 | exact pw_cell_below L S.c1 | exact pw_cell_below L S.c2 | exact pw_cell_below L S.c3 | exact pw_cell_below L S.c4 | exact pw_cell_below L S.c5 | exact pw_cell_below L S.c0 | exact pw_cell_below L S.c1 | exact pw_cell_below L S.c2 | exact pw_cell_below L S.c3 | exact pw_cell_below L S.c4 | exact pw_cell_below L S.c5)) ?_
          refine E.GL.cmp rfl rfl rfl (fun _ h => (E.Runs.eql rfl rfl rfl h)) (fun h38 => ?_) (fun h38 => ?_)
          · refine E.GL.run rfl rfl rfl (E.Runs.move rfl rfl) ?_
            refine E.GL.run rfl rfl rfl (E.Runs.fieldAddr rfl rfl hu36 rfl (by assumption) rfl) ?_
            refine E.GL.run rfl rfl rfl (E.Runs.load rfl rfl hu3 (by first | assumption | exact E.blkc (by assumption) rfl | exact pw_cell_below L (by assumption) | exact pw_cell_below lq (by assumption) | exact pw_cell_below L S.c0 | exact pw_cell_below L S.c1 | exact pw_cell_below L S.c2 | exact pw_cell_below L S.c3 | exact pw_cell_below L S.c4 | exact pw_cell_below L S.c5 | exact pw_cell_below L S.c0 | exact pw_cell_below L S.c1 | exact pw_cell_below L S.c2 | exact pw_cell_below L S.c3 | exact pw_cell_below L S.c4 | exact pw_cell_below L S.c5)) ?_
            refine E.GL.run rfl rfl rfl (E.Runs.fieldAddr rfl rfl hu36 rfl (by assumption) rfl) ?_
            refine E.GL.run rfl rfl rfl (E.Runs.load rfl rfl hu3 (by first | assumption | exact E.blkc (by assumption) rfl | exact pw_cell_below L (by assumption) | exact pw_cell_below lq (by assumption) | exact pw_cell_below L S.c0 | exact pw_cell_below L S.c1 | exact pw_cell_below L S.c2 | exact pw_cell_below L S.c3 | exact pw_cell_below L S.c4 | exact pw_cell_below L S.c5 | exact pw_cell_below L S.c0 | exact pw_cell_below L S.c1 | exact pw_cell_below L S.c2 | exact pw_cell_below L S.c3 | exact pw_cell_below L S.c4 | exact pw_cell_below L S.c5)) ?_
            refine E.GL.cmp rfl rfl rfl (fun _ h => (E.Runs.eql rfl rfl rfl h)) (fun h44 => ?_) (fun h44 => ?_)
            · refine E.GL.run rfl rfl rfl (E.Runs.pick_t rfl rfl rfl) ?_
              refine E.GL.done ?_
              refine E.QG.code ?_
              refine E.CG.cond_t rfl ?_
              refine E.CG.seq ?_
              refine E.CG.list ?_
              refine E.GL.run rfl rfl rfl (E.Runs.assign rfl rfl) ?_
              refine E.GL.done ?_
              refine E.QG.code ?_
              refine E.CG.ret ?_
              refine E.QG.block_ret ?_
              refine E.QG.pass_ret ?_
              refine E.QG.pass_ret ?_
              refine E.QG.block_ret ?_
              refine E.QG.pass_ret ?_
              exact E.QG.result rfl rfl ⟨congrArg (fun x => Ending.returned (Value.bool x)) (Bool.eq_false_iff.mpr fun e => (h.mp e).2.2 o (List.mem_of_getElem? ho) ⟨h38, h44⟩).symm, L⟩
            · refine E.GL.run rfl rfl rfl (E.Runs.pick_t rfl rfl rfl) ?_
              refine E.GL.done ?_
              refine E.QG.code ?_
              refine E.CG.cond_f rfl ?_
              refine E.CG.skip ?_
              refine E.QG.block_normal ?_
              refine E.QG.code ?_
              refine E.CG.list ?_
              refine E.GL.run rfl rfl rfl (E.Runs.add rfl rfl rfl (IntWalk.i64_in _ (by omega))) ?_
              refine E.GL.run rfl rfl rfl (E.Runs.move rfl rfl) ?_
              refine E.GL.done ?_
              exact E.QG.round (k + 1) (E.subc rfl (E.subc rfl (E.subc rfl (E.subc rfl E.subn)))) ⟨by omega, lq, fun j o' hj h1 => by
                  rcases Nat.lt_succ_iff_lt_or_eq.mp hj with hj | rfl
                  · exact hp j o' hj h1
                  · rw [ho] at h1
                    cases h1
                    first | exact fun hh => h38 hh.1 | exact fun hh => h44 hh.2⟩ (by omega)
          · refine E.GL.run rfl rfl rfl (E.Runs.move rfl rfl) ?_
            refine E.GL.skip rfl rfl rfl ?_
            refine E.GL.skip rfl rfl rfl ?_
            refine E.GL.skip rfl rfl rfl ?_
            refine E.GL.skip rfl rfl rfl ?_
            refine E.GL.skip rfl rfl rfl ?_
            refine E.GL.run rfl rfl rfl (E.Runs.pick_f rfl rfl rfl) ?_
            refine E.GL.done ?_
            refine E.QG.code ?_
            refine E.CG.cond_f rfl ?_
            refine E.CG.skip ?_
            refine E.QG.block_normal ?_
            refine E.QG.code ?_
            refine E.CG.list ?_
            refine E.GL.run rfl rfl rfl (E.Runs.add rfl rfl rfl (IntWalk.i64_in _ (by omega))) ?_
            refine E.GL.run rfl rfl rfl (E.Runs.move rfl rfl) ?_
            refine E.GL.done ?_
            exact E.QG.round (k + 1) (E.subc rfl (E.subc rfl (E.subc rfl (E.subc rfl E.subn)))) ⟨by omega, lq, fun j o' hj h1 => by
                rcases Nat.lt_succ_iff_lt_or_eq.mp hj with hj | rfl
                · exact hp j o' hj h1
                · rw [ho] at h1
                  cases h1
                  first | exact fun hh => h38 hh.1 | exact fun hh => h44 hh.2⟩ (by omega)
        · refine E.GL.done ?_
          refine E.QG.code ?_
          refine E.CG.seq ?_
          refine E.CG.cond_f rfl ?_
          refine E.CG.exit ?_
          refine E.QG.pass_exit ?_
          refine E.QG.pass_exit ?_
          refine E.QG.block_here ?_
          refine E.QG.code ?_
          refine E.CG.seq ?_
          refine E.CG.list ?_
          refine E.GL.run rfl rfl rfl (E.Runs.assign rfl rfl) ?_
          refine E.GL.done ?_
          refine E.QG.code ?_
          refine E.CG.ret ?_
          exact E.QG.result rfl rfl ⟨congrArg (fun x => Ending.returned (Value.bool x)) (h.mpr ⟨h9, hlast, fun o ho hh => by obtain ⟨j, hj⟩ := List.mem_iff_getElem?.mp ho; exact hp j o (by have := (List.getElem?_eq_some_iff.1 hj).1; omega) hj hh⟩).symm, L⟩
    · refine E.GH.take (i := 8) rfl (by kernel_rfl) (by kernel_rfl) (by kernel_rfl) (by intro c a d v w h; cases d <;> exact h) rfl rfl rfl (fun w' hS => (E.Runs.move rfl rfl)) ?_
      refine E.GH.pass (i := 9) rfl (by kernel_rfl) (by kernel_rfl) (by kernel_rfl) (by intro c a d v w h; cases d <;> exact h) rfl rfl rfl ?_
      refine E.GH.pass (i := 10) rfl (by kernel_rfl) (by kernel_rfl) (by kernel_rfl) (by intro c a d v w h; cases d <;> exact h) rfl rfl rfl ?_
      refine E.GH.pass (i := 11) rfl (by kernel_rfl) (by kernel_rfl) (by kernel_rfl) (by intro c a d v w h; cases d <;> exact h) rfl rfl rfl ?_
      refine E.GH.pass (i := 12) rfl (by kernel_rfl) (by kernel_rfl) (by kernel_rfl) (by intro c a d v w h; cases d <;> exact h) rfl rfl rfl ?_
      refine E.GH.pass (i := 13) rfl (by kernel_rfl) (by kernel_rfl) (by kernel_rfl) (by intro c a d v w h; cases d <;> exact h) rfl rfl rfl ?_
      refine E.GH.pass (i := 14) rfl (by kernel_rfl) (by kernel_rfl) (by kernel_rfl) (by intro c a d v w h; cases d <;> exact h) rfl rfl rfl ?_
      refine E.GH.pass (i := 15) rfl (by kernel_rfl) (by kernel_rfl) (by kernel_rfl) (by intro c a d v w h; cases d <;> exact h) rfl rfl rfl ?_
      refine E.GH.pass (i := 16) rfl (by kernel_rfl) (by kernel_rfl) (by kernel_rfl) (by intro c a d v w h; cases d <;> exact h) rfl rfl rfl ?_
      refine E.GH.pass (i := 17) rfl (by kernel_rfl) (by kernel_rfl) (by kernel_rfl) (by intro c a d v w h; cases d <;> exact h) rfl rfl rfl ?_
      refine E.GH.pass (i := 18) rfl (by kernel_rfl) (by kernel_rfl) (by kernel_rfl) (by intro c a d v w h; cases d <;> exact h) rfl rfl rfl ?_
      refine E.GH.take (i := 19) rfl (by kernel_rfl) (by kernel_rfl) (by kernel_rfl) (by intro c a d v w h; cases d <;> exact h) rfl rfl rfl (fun w' hS => (E.Runs.pick_f rfl rfl rfl)) ?_
      refine E.GH.take (i := 20) rfl (by kernel_rfl) (by kernel_rfl) (by kernel_rfl) (by intro c a d v w h; cases d <;> exact h) rfl rfl rfl (fun w' hS => (E.Runs.pick_f rfl rfl rfl)) ?_
      refine E.GH.done (by kernel_rfl) ?_
      refine E.QG.code ?_
      refine E.CG.cond_f rfl ?_
      refine E.CG.skip ?_
      refine E.QG.code ?_
      refine E.CG.seq ?_
      refine E.CG.seq ?_
      have hlast : l ≠ [] → (rd_T36 l ((l.length : Int) - 1)).f1 ≤ s.f1 := by
        intro hne
        first
          | (rw [hz']; omega)
          | (have := List.length_pos_iff.mpr hne; omega)
      refine E.CG.list ?_
      refine E.GL.run rfl rfl rfl (E.Runs.move rfl rfl) ?_
      refine E.GL.run rfl rfl rfl (E.Runs.len rfl rfl hu26) ?_
      refine E.GL.run rfl rfl rfl (E.Runs.move rfl rfl) ?_
      refine E.GL.done ?_
      refine E.QG.code ?_
      refine E.CG.block ?_
      have s4_b3 := b3
      have s4_L := L
      refine E.CG.loop (fun (k : Nat) => [(3, .pointer (some ⟨g3, 0, none⟩)), (28, .slice A1 l.length c1), (29, .int .i64 l.length), (30, .int .i64 k)]) (fun k w' => k ≤ l.length ∧ Below w9.heap.size w9 w' ∧ ∀ (j : Nat) (o : S36), j < k → l[j]? = some o → ¬ (o.f0 = s.f0 ∧ o.f1 = s.f1)) (fun k => l.length - k) 0 (E.subc rfl (E.subc rfl (E.subc rfl (E.subc rfl (E.subn))))) ⟨Nat.zero_le _, Below.refl _ _, fun j o hj => absurd hj (Nat.not_lt_zero _)⟩ ?_
      rintro k w4 ⟨hk, lq, hp⟩
      replace b3 := blk_below b3 lq
      replace L := below_step L lq
      refine E.CG.seq ?_
      refine E.CG.list ?_
      refine E.GL.cmp rfl rfl rfl (fun _ h => (E.Runs.lss rfl rfl rfl h)) (fun h31 => ?_) (fun h31 => ?_)
      · have hlt : k < l.length := by omega
        obtain ⟨o, ho⟩ : ∃ s, l[k]? = some s := ⟨_, List.getElem?_eq_getElem hlt⟩
        obtain ⟨ad, eA, S⟩ := slot_at hr ho
        refine E.GL.done ?_
        refine E.QG.code ?_
        refine E.CG.seq ?_
        refine E.CG.cond_t rfl ?_
        refine E.CG.skip ?_
        refine E.QG.code ?_
        refine E.CG.seq ?_
        refine E.CG.block ?_
        refine E.CG.seq ?_
        refine E.CG.list ?_
        refine E.GL.run rfl rfl rfl (E.Runs.indexAddrA rfl rfl rfl hu26 (by assumption) (by assumption) (by assumption) (by first | rfl | assumption) rfl) ?_
        refine E.GL.run rfl rfl rfl (E.Runs.loads (cs := [.int .i64 o.f0, .int .i64 o.f1, .int .i64 o.f2.f0, .int .i64 o.f2.f1, .int .i64 o.f3, .int .i64 o.f4]) rfl rfl hu36 rfl info36s (E.cellsB L S.cells)) ?_
        refine E.GL.st rfl rfl rfl (E.ST.alloc rfl info36z fun g6 w6 e6 b6 l6 => ?_)
        have h6_L : w.heap.size ≤ g6 := by rw [e6]; exact L.size
        have h6_lq : w9.heap.size ≤ g6 := by rw [e6]; exact lq.size
        have n6_b3 : g3 ≠ g6 := by have := blk_lt b3; omega
        replace b3 := blk_below b3 l6
        replace L := below_step L l6
        replace lq := below_step lq l6
        refine E.GL.store_whole rfl rfl rfl rfl rfl b6 rfl info36s (six_one _ _ _ _ _ _) fun wS5_3 c6 lS5_3 => ?_
        replace b3 := blk_grown b3 lS5_3 (E.nes (by first | assumption | exact Ne.symm (by assumption)))
        replace L := E.below_own L h6_L lS5_3
        replace lq := E.below_own lq h6_lq lS5_3
        replace b6 := c6
        clear c6
        refine E.GL.done ?_
        refine E.QG.code ?_
        refine E.CG.seq ?_
        refine E.CG.list ?_
        refine E.GL.run rfl rfl rfl (E.Runs.fieldAddr rfl rfl hu36 rfl (by assumption) rfl) ?_
        refine E.GL.run rfl rfl rfl (E.Runs.load rfl rfl hu3 (by first | assumption | exact E.blkc (by assumption) rfl | exact pw_cell_below L (by assumption) | exact pw_cell_below lq (by assumption) | exact pw_cell_below L S.c0 | exact pw_cell_below L S.c1 | exact pw_cell_below L S.c2 | exact pw_cell_below L S.c3 | exact pw_cell_below L S.c4 | exact pw_cell_below L S.c5)) ?_
        refine E.GL.run rfl rfl rfl (E.Runs.fieldAddr rfl rfl hu36 rfl (by assumption) rfl) ?_
        refine E.GL.run rfl rfl rfl (E.Runs.load rfl rfl hu3 (by first | assumption | exact E.blkc (by assumption) rfl | exact pw_cell_below L (by assumption) | exact pw_cell_below lq (by assumption) | exact pw_cell_below L S.c0 | exact pw_cell_below L S.c1 | exact pw_cell_below L S.c2 | exact pw_cell_below L S.c3 | exact pw_cell_below L S.c4 | exact pw_cell_below L S.c5)) ?_
        refine E.GL.cmp rfl rfl rfl (fun _ h => (E.Runs.eql rfl rfl rfl h)) (fun h38 => ?_) (fun h38 => ?_)
        · refine E.GL.run rfl rfl rfl (E.Runs.move rfl rfl) ?_
          refine E.GL.run rfl rfl rfl (E.Runs.fieldAddr rfl rfl hu36 rfl (by assumption) rfl) ?_
          refine E.GL.run rfl rfl rfl (E.Runs.load rfl rfl hu3 (by first | assumption | exact E.blkc (by assumption) rfl | exact pw_cell_below L (by assumption) | exact pw_cell_below lq (by assumption) | exact pw_cell_below L S.c0 | exact pw_cell_below L S.c1 | exact pw_cell_below L S.c2 | exact pw_cell_below L S.c3 | exact pw_cell_below L S.c4 | exact pw_cell_below L S.c5)) ?_
          refine E.GL.run rfl rfl rfl (E.Runs.fieldAddr rfl rfl hu36 rfl (by assumption) rfl) ?_
          refine E.GL.run rfl rfl rfl (E.Runs.load rfl rfl hu3 (by first | assumption | exact E.blkc (by assumption) rfl | exact pw_cell_below L (by assumption) | exact pw_cell_below lq (by assumption) | exact pw_cell_below L S.c0 | exact pw_cell_below L S.c1 | exact pw_cell_below L S.c2 | exact pw_cell_below L S.c3 | exact pw_cell_below L S.c4 | exact pw_cell_below L S.c5)) ?_
          refine E.GL.cmp rfl rfl rfl (fun _ h => (E.Runs.eql rfl rfl rfl h)) (fun h44 => ?_) (fun h44 => ?_)
          · refine E.GL.run rfl rfl rfl (E.Runs.pick_t rfl rfl rfl) ?_
            refine E.GL.done ?_
            refine E.QG.code ?_
            refine E.CG.cond_t rfl ?_
            refine E.CG.seq ?_
            refine E.CG.list ?_
            refine E.GL.run rfl rfl rfl (E.Runs.assign rfl rfl) ?_
            refine E.GL.done ?_
            refine E.QG.code ?_
            refine E.CG.ret ?_
            refine E.QG.block_ret ?_
            refine E.QG.pass_ret ?_
            refine E.QG.pass_ret ?_
            refine E.QG.block_ret ?_
            refine E.QG.pass_ret ?_
            exact E.QG.result rfl rfl ⟨congrArg (fun x => Ending.returned (Value.bool x)) (Bool.eq_false_iff.mpr fun e => (h.mp e).2.2 o (List.mem_of_getElem? ho) ⟨h38, h44⟩).symm, L⟩
          · refine E.GL.run rfl rfl rfl (E.Runs.pick_t rfl rfl rfl) ?_
            refine E.GL.done ?_
            refine E.QG.code ?_
            refine E.CG.cond_f rfl ?_
            refine E.CG.skip ?_
            refine E.QG.block_normal ?_
            refine E.QG.code ?_
            refine E.CG.list ?_
            refine E.GL.run rfl rfl rfl (E.Runs.add rfl rfl rfl (IntWalk.i64_in _ (by omega))) ?_
            refine E.GL.run rfl rfl rfl (E.Runs.move rfl rfl) ?_
            refine E.GL.done ?_
            exact E.QG.round (k + 1) (E.subc rfl (E.subc rfl (E.subc rfl (E.subc rfl E.subn)))) ⟨by omega, lq, fun j o' hj h1 => by
                rcases Nat.lt_succ_iff_lt_or_eq.mp hj with hj | rfl
                · exact hp j o' hj h1
                · rw [ho] at h1
                  cases h1
                  first | exact fun hh => h38 hh.1 | exact fun hh => h44 hh.2⟩ (by omega)
        · refine E.GL.run rfl rfl rfl (E.Runs.move rfl rfl) ?_
          refine E.GL.skip rfl rfl rfl ?_
          refine E.GL.skip rfl rfl rfl ?_
          refine E.GL.skip rfl rfl rfl ?_
          refine E.GL.skip rfl rfl rfl ?_
          refine E.GL.skip rfl rfl rfl ?_
          refine E.GL.run rfl rfl rfl (E.Runs.pick_f rfl rfl rfl) ?_
          refine E.GL.done ?_
          refine E.QG.code ?_
          refine E.CG.cond_f rfl ?_
          refine E.CG.skip ?_
          refine E.QG.block_normal ?_
          refine E.QG.code ?_
          refine E.CG.list ?_
          refine E.GL.run rfl rfl rfl (E.Runs.add rfl rfl rfl (IntWalk.i64_in _ (by omega))) ?_
          refine E.GL.run rfl rfl rfl (E.Runs.move rfl rfl) ?_
          refine E.GL.done ?_
          exact E.QG.round (k + 1) (E.subc rfl (E.subc rfl (E.subc rfl (E.subc rfl E.subn)))) ⟨by omega, lq, fun j o' hj h1 => by
              rcases Nat.lt_succ_iff_lt_or_eq.mp hj with hj | rfl
              · exact hp j o' hj h1
              · rw [ho] at h1
                cases h1
                first | exact fun hh => h38 hh.1 | exact fun hh => h44 hh.2⟩ (by omega)
      · refine E.GL.done ?_
        refine E.QG.code ?_
        refine E.CG.seq ?_
        refine E.CG.cond_f rfl ?_
        refine E.CG.exit ?_
        refine E.QG.pass_exit ?_
        refine E.QG.pass_exit ?_
        refine E.QG.block_here ?_
        refine E.QG.code ?_
        refine E.CG.seq ?_
        refine E.CG.list ?_
        refine E.GL.run rfl rfl rfl (E.Runs.assign rfl rfl) ?_
        refine E.GL.done ?_
        refine E.QG.code ?_
        refine E.CG.ret ?_
        exact E.QG.result rfl rfl ⟨congrArg (fun x => Ending.returned (Value.bool x)) (h.mpr ⟨h9, hlast, fun o ho hh => by obtain ⟨j, hj⟩ := List.mem_iff_getElem?.mp ho; exact hp j o (by have := (List.getElem?_eq_some_iff.1 hj).1; omega) hj hh⟩).symm, L⟩
  · refine E.GH.one (i := 2) (by kernel_rfl) rfl ?_
    refine E.GO.st rfl rfl rfl (E.ST.call rfl ent52 (E.evc rfl (E.evc rfl (E.evc rfl E.evn))) ((within_o s.f1 0 2000 false (iff_of_false Bool.false_ne_true h9) _).mono ?_))
    rintro e w9 ⟨rfl, l9⟩
    refine ⟨_, rfl, hh.trans (E.gbB l9), ?_⟩
    replace hh := hh.trans (E.gbB l9)
    replace b3 := blk_below b3 l9
    replace L := below_step L l9
    refine E.GH.take (i := 3) rfl (by kernel_rfl) (by kernel_rfl) (by kernel_rfl) (by intro c a d v w h; cases d <;> exact h) rfl rfl rfl (fun w' hS => (E.Runs.not rfl rfl)) ?_
    refine E.GH.take (i := 4) rfl (by kernel_rfl) (by kernel_rfl) (by kernel_rfl) (by intro c a d v w h; cases d <;> exact h) rfl rfl rfl (fun w' hS => (E.Runs.move rfl rfl)) ?_
    refine E.GH.pass (i := 5) rfl (by kernel_rfl) (by kernel_rfl) (by kernel_rfl) (by intro c a d v w h; cases d <;> exact h) rfl rfl rfl ?_
    refine E.GH.pass (i := 6) rfl (by kernel_rfl) (by kernel_rfl) (by kernel_rfl) (by intro c a d v w h; cases d <;> exact h) rfl rfl rfl ?_
    refine E.GH.pass (i := 7) rfl (by kernel_rfl) (by kernel_rfl) (by kernel_rfl) (by intro c a d v w h; cases d <;> exact h) rfl rfl rfl ?_
    refine E.GH.pass (i := 8) rfl (by kernel_rfl) (by kernel_rfl) (by kernel_rfl) (by intro c a d v w h; cases d <;> exact h) rfl rfl rfl ?_
    refine E.GH.pass (i := 9) rfl (by kernel_rfl) (by kernel_rfl) (by kernel_rfl) (by intro c a d v w h; cases d <;> exact h) rfl rfl rfl ?_
    refine E.GH.pass (i := 10) rfl (by kernel_rfl) (by kernel_rfl) (by kernel_rfl) (by intro c a d v w h; cases d <;> exact h) rfl rfl rfl ?_
    refine E.GH.pass (i := 11) rfl (by kernel_rfl) (by kernel_rfl) (by kernel_rfl) (by intro c a d v w h; cases d <;> exact h) rfl rfl rfl ?_
    refine E.GH.pass (i := 12) rfl (by kernel_rfl) (by kernel_rfl) (by kernel_rfl) (by intro c a d v w h; cases d <;> exact h) rfl rfl rfl ?_
    refine E.GH.pass (i := 13) rfl (by kernel_rfl) (by kernel_rfl) (by kernel_rfl) (by intro c a d v w h; cases d <;> exact h) rfl rfl rfl ?_
    refine E.GH.pass (i := 14) rfl (by kernel_rfl) (by kernel_rfl) (by kernel_rfl) (by intro c a d v w h; cases d <;> exact h) rfl rfl rfl ?_
    refine E.GH.pass (i := 15) rfl (by kernel_rfl) (by kernel_rfl) (by kernel_rfl) (by intro c a d v w h; cases d <;> exact h) rfl rfl rfl ?_
    refine E.GH.pass (i := 16) rfl (by kernel_rfl) (by kernel_rfl) (by kernel_rfl) (by intro c a d v w h; cases d <;> exact h) rfl rfl rfl ?_
    refine E.GH.pass (i := 17) rfl (by kernel_rfl) (by kernel_rfl) (by kernel_rfl) (by intro c a d v w h; cases d <;> exact h) rfl rfl rfl ?_
    refine E.GH.pass (i := 18) rfl (by kernel_rfl) (by kernel_rfl) (by kernel_rfl) (by intro c a d v w h; cases d <;> exact h) rfl rfl rfl ?_
    refine E.GH.pass (i := 19) rfl (by kernel_rfl) (by kernel_rfl) (by kernel_rfl) (by intro c a d v w h; cases d <;> exact h) rfl rfl rfl ?_
    refine E.GH.take (i := 20) rfl (by kernel_rfl) (by kernel_rfl) (by kernel_rfl) (by intro c a d v w h; cases d <;> exact h) rfl rfl rfl (fun w' hS => (E.Runs.pick_t rfl rfl rfl)) ?_
    refine E.GH.done (by kernel_rfl) ?_
    refine E.QG.code ?_
    refine E.CG.cond_t rfl ?_
    refine E.CG.seq ?_
    refine E.CG.list ?_
    refine E.GL.run rfl rfl rfl (E.Runs.assign rfl rfl) ?_
    refine E.GL.done ?_
    refine E.QG.code ?_
    refine E.CG.ret ?_
    refine E.QG.pass_ret ?_
    exact E.QG.result rfl rfl ⟨congrArg (fun x => Ending.returned (Value.bool x)) (Bool.eq_false_iff.mpr fun e => h9 (h.mp e).1).symm, L⟩

theorem follows_t (l : List S36) (s : S36) (k : Nat) (hk : k ≤ l.length) (A1 : Option Addr) (c1 : Nat) (b : Bool) (h : b = true ↔ FollowsOk (l.take k) s) (w : World) (hn : l.length ≤ 1000000) (hr : Kd.C k36 w A1 l.length l) (hc : l.length ≤ c1) :
    Calls Try.prog 47 #[.slice A1 k c1, sv s] w fun e w' => e = .returned (.bool b) ∧ Below w.heap.size w w' := by
  have hl : (l.take k).length = k := by rw [List.length_take]; omega
  have := follows_o (l.take k) s A1 c1 b h w (by omega) (Kd.C_take hr hk) (by omega)
  rw [hl] at this
  exact this
theorem okFrom_at {H : Hs} {l : List S36} {i : Nat} {s : S36} (h : l[i]? = some s) : OkFrom H l i ↔ (SlotOk H s ∧ FollowsOk (l.take i) s) ∧ OkFrom H l (i + 1) := by
  obtain ⟨h1, rfl⟩ := List.getElem?_eq_some_iff.1 h
  exact okFrom_step H l i h1
theorem take_last {l : List S36} {i : Nat} {z : S36} (hi : 0 < i) (hl : i ≤ l.length) (h : l[i - 1]? = some z) : rd_T36 (l.take i) (((l.take i).length : Int) - 1) = z := by
  have h1 : (l.take i).length = i := by rw [List.length_take]; omega
  rw [rd36_last _ (by omega)]
  obtain ⟨h2, rfl⟩ := List.getElem?_eq_some_iff.1 h
  simp [h1]
set_option maxRecDepth 100000 in
set_option maxHeartbeats 4000000 in

theorem check_calls (H : Hs) (l : List S36) (A1 : Option Addr) (c1 : Nat) (w : World) (hl : l.length ≤ 1000000000000) (hr : Kd.C k36 w A1 l.length l) (hc : l.length ≤ c1) :
    Calls Try.prog 29 #[hv H, .slice A1 l.length c1] w fun e w' => e = .returned (.int .i64 (checkE H l)) ∧ Below w.heap.size w w' := by
  have hu3 := Try.underlying3
  have hu25 := Try.underlying25
  have hu26 := Try.underlying26
  have hu36 := Try.underlying36
  obtain ⟨z3, o3⟩ := info_some info3s (by decide)
  obtain ⟨z36, o36⟩ := info_some info36s (by decide)
  refine E.enter (N := 33) Try.func29 rfl Try.ntmps29 (args := [hv H, .slice A1 l.length c1]) (by simp) ?_
  have L := Below.refl w.heap.size w
  refine E.CG.seq ?_
  refine E.CG.list ?_
  refine E.GL.st rfl rfl rfl (E.ST.box rfl rfl fun g2 w2 e2 b2 l2 => ?_)
  have h2_L : w.heap.size ≤ g2 := by rw [e2]; exact L.size
  replace L := below_step L l2
  refine E.GL.run rfl rfl rfl (E.Runs.assign rfl rfl) ?_
  refine E.GL.done ?_
  refine E.QG.code ?_
  refine E.CG.seq ?_
  refine E.CG.seq ?_
  refine E.CG.list ?_
  refine E.GL.run rfl rfl rfl (E.Runs.loads (cs := [.int .i64 H.teams, .int .i64 H.walk, .int .i64 H.early, .int .i64 H.foyer, .int .i64 H.dl, .int .i64 H.dh, .int .i64 H.cl, .int .i64 H.ch]) rfl rfl hu25 rfl info25s (blk_cells b2)) ?_
  by_cases h8 : HouseOk H
  · refine E.GL.st rfl rfl rfl (E.ST.call rfl ent55 (E.evc rfl E.evn) ((house_o H true (iff_of_true rfl h8) _).mono ?_))
    rintro e w8 ⟨rfl, l8⟩
    refine ⟨_, rfl, ?_⟩
    replace b2 := blk_below b2 l8
    replace L := below_step L l8
    refine E.GL.run rfl rfl rfl (E.Runs.not rfl rfl) ?_
    refine E.GL.done ?_
    refine E.QG.code ?_
    refine E.CG.cond_f rfl ?_
    refine E.CG.skip ?_
    refine E.QG.code ?_
    refine E.CG.seq ?_
    refine E.CG.seq ?_
    refine E.CG.list ?_
    refine E.GL.run rfl rfl rfl (E.Runs.move rfl rfl) ?_
    refine E.GL.run rfl rfl rfl (E.Runs.len rfl rfl hu26) ?_
    refine E.GL.cmp rfl rfl rfl (fun _ h => (E.Runs.gtr rfl rfl rfl h)) (fun h12 => ?_) (fun h12 => ?_)
    · refine E.GL.done ?_
      refine E.QG.code ?_
      refine E.CG.cond_t rfl ?_
      refine E.CG.seq ?_
      refine E.CG.list ?_
      refine E.GL.run rfl rfl rfl (E.Runs.assign rfl rfl) ?_
      refine E.GL.done ?_
      refine E.QG.code ?_
      refine E.CG.ret ?_
      refine E.QG.pass_ret ?_
      exact E.QG.result rfl rfl ⟨congrArg (fun x => Ending.returned (Value.int .i64 x)) (by unfold checkE; rw [if_pos h8, if_neg (by omega)]), L⟩
    · refine E.GL.done ?_
      refine E.QG.code ?_
      refine E.CG.cond_f rfl ?_
      refine E.CG.skip ?_
      refine E.QG.code ?_
      refine E.CG.seq ?_
      refine E.CG.seq ?_
      refine E.CG.list ?_
      refine E.GL.run rfl rfl rfl (E.Runs.move rfl rfl) ?_
      refine E.GL.run rfl rfl rfl (E.Runs.len rfl rfl hu26) ?_
      refine E.GL.run rfl rfl rfl (E.Runs.move rfl rfl) ?_
      refine E.GL.done ?_
      refine E.QG.code ?_
      refine E.CG.block ?_
      have s6_b2 := b2
      have s6_L := L
      refine E.CG.loop (fun (k : Nat) => [(1, .slice A1 l.length c1), (2, .pointer (some ⟨g2, 0, none⟩)), (13, .slice A1 l.length c1), (14, .int .i64 l.length), (15, .int .i64 k)]) (fun k w' => k ≤ l.length ∧ Below w8.heap.size w8 w' ∧ (OkFrom H l 0 ↔ OkFrom H l k)) (fun k => l.length - k) 0 (E.subc rfl (E.subc rfl (E.subc rfl (E.subc rfl (E.subc rfl (E.subn)))))) ⟨Nat.zero_le _, Below.refl _ _, Iff.rfl⟩ ?_
      rintro k w6 ⟨hk, lq, hp⟩
      replace b2 := blk_below b2 lq
      replace L := below_step L lq
      refine E.CG.seq ?_
      refine E.CG.list ?_
      refine E.GL.cmp rfl rfl rfl (fun _ h => (E.Runs.lss rfl rfl rfl h)) (fun h16 => ?_) (fun h16 => ?_)
      · have hlt : k < l.length := by omega
        obtain ⟨s, hs⟩ : ∃ s, l[k]? = some s := ⟨_, List.getElem?_eq_getElem hlt⟩
        obtain ⟨ad, eA, S⟩ := slot_at hr hs
        have hkc : (k : Int) ≤ (c1 : Int) := by omega
        refine E.GL.done ?_
        refine E.QG.code ?_
        refine E.CG.seq ?_
        refine E.CG.cond_t rfl ?_
        refine E.CG.skip ?_
        refine E.QG.code ?_
        refine E.CG.seq ?_
        refine E.CG.block ?_
        refine E.CG.seq ?_
        refine E.CG.list ?_
        refine E.GL.run rfl rfl rfl (E.Runs.move rfl rfl) ?_
        refine E.GL.run rfl rfl rfl (E.Runs.indexAddrA rfl rfl rfl hu26 (by assumption) (by assumption) (by assumption) (by first | rfl | assumption) rfl) ?_
        refine E.GL.run rfl rfl rfl (E.Runs.loads (cs := [.int .i64 s.f0, .int .i64 s.f1, .int .i64 s.f2.f0, .int .i64 s.f2.f1, .int .i64 s.f3, .int .i64 s.f4]) rfl rfl hu36 rfl info36s (E.cellsB L S.cells)) ?_
        refine E.GL.st rfl rfl rfl (E.ST.alloc rfl info36z fun g6 w6 e6 b6 l6 => ?_)
        have h6_L : w.heap.size ≤ g6 := by rw [e6]; exact L.size
        have h6_lq : w8.heap.size ≤ g6 := by rw [e6]; exact lq.size
        have n6_b2 : g2 ≠ g6 := by have := blk_lt b2; omega
        replace b2 := blk_below b2 l6
        replace L := below_step L l6
        replace lq := below_step lq l6
        refine E.GL.run rfl rfl rfl (E.Runs.assign rfl rfl) ?_
        refine E.GL.store_whole rfl rfl rfl rfl rfl b6 rfl info36s (six_one _ _ _ _ _ _) fun wS7_5 c6 lS7_5 => ?_
        replace b2 := blk_grown b2 lS7_5 (E.nes (by first | assumption | exact Ne.symm (by assumption)))
        replace L := E.below_own L h6_L lS7_5
        replace lq := E.below_own lq h6_lq lS7_5
        replace b6 := c6
        clear c6
        refine E.GL.done ?_
        refine E.QG.code ?_
        refine E.CG.seq ?_
        refine E.CG.heldH (none) (by kernel_rfl) fun v8 lD hh => ?_
        replace b2 := blk_below b2 lD
        replace b6 := blk_below b6 lD
        replace L := below_step L lD
        replace lq := below_step lq lD
        clear lD
        have s_b2 := b2
        have s_b6 := b6
        have s_L := L
        have s_lq := lq
        refine E.GH.take (i := 0) rfl (by kernel_rfl) (by kernel_rfl) (by kernel_rfl) (by intro c a d v w h; cases d <;> exact h) rfl rfl rfl (fun w' hS => (E.Runs.loads (cs := [.int .i64 H.teams, .int .i64 H.walk, .int .i64 H.early, .int .i64 H.foyer, .int .i64 H.dl, .int .i64 H.dh, .int .i64 H.cl, .int .i64 H.ch]) rfl rfl hu25 rfl info25s (blk_cells (blk_grown s_b2 hS E.nen)))) ?_
        refine E.GH.take (i := 1) rfl (by kernel_rfl) (by kernel_rfl) (by kernel_rfl) (by intro c a d v w h; cases d <;> exact h) rfl rfl rfl (fun w' hS => (E.Runs.loads (cs := [.int .i64 s.f0, .int .i64 s.f1, .int .i64 s.f2.f0, .int .i64 s.f2.f1, .int .i64 s.f3, .int .i64 s.f4]) rfl rfl hu36 rfl info36s (blk_cells (blk_grown s_b6 hS E.nen)))) ?_
        by_cases h22 : SlotOk H s
        · refine E.GH.one (i := 2) (by kernel_rfl) rfl ?_
          refine E.GO.st rfl rfl rfl (E.ST.call rfl ent46 (E.evc rfl (E.evc rfl E.evn)) ((slot_o H s true (iff_of_true rfl h22) h8 _).mono ?_))
          rintro e w22 ⟨rfl, l22⟩
          refine ⟨_, rfl, hh.trans (E.gbB l22), ?_⟩
          replace hh := hh.trans (E.gbB l22)
          replace b2 := blk_below b2 l22
          replace b6 := blk_below b6 l22
          replace L := below_step L l22
          replace lq := below_step lq l22
          refine E.GH.take (i := 3) rfl (by kernel_rfl) (by kernel_rfl) (by kernel_rfl) (by intro c a d v w h; cases d <;> exact h) rfl rfl rfl (fun w' hS => (E.Runs.not rfl rfl)) ?_
          refine E.GH.take (i := 4) rfl (by kernel_rfl) (by kernel_rfl) (by kernel_rfl) (by intro c a d v w h; cases d <;> exact h) rfl rfl rfl (fun w' hS => (E.Runs.move rfl rfl)) ?_
          refine E.GH.take (i := 5) rfl (by kernel_rfl) (by kernel_rfl) (by kernel_rfl) (by intro c a d v w h; cases d <;> exact h) rfl rfl rfl (fun w' hS => (E.Runs.move rfl rfl)) ?_
          refine E.GH.take (i := 6) rfl (by kernel_rfl) (by kernel_rfl) (by kernel_rfl) (by intro c a d v w h; cases d <;> exact h) rfl rfl rfl (fun w' hS => (E.Runs.move rfl rfl)) ?_
          refine E.GH.take (i := 7) rfl (by kernel_rfl) (by kernel_rfl) (by kernel_rfl) (by intro c a d v w h; cases d <;> exact h) rfl rfl rfl (fun w' hS => (E.Runs.sliceTo rfl rfl rfl hu26 (by assumption) (by omega))) ?_
          refine E.GH.take (i := 8) rfl (by kernel_rfl) (by kernel_rfl) (by kernel_rfl) (by intro c a d v w h; cases d <;> exact h) rfl rfl rfl (fun w' hS => (E.Runs.loads (cs := [.int .i64 s.f0, .int .i64 s.f1, .int .i64 s.f2.f0, .int .i64 s.f2.f1, .int .i64 s.f3, .int .i64 s.f4]) rfl rfl hu36 rfl info36s (blk_cells (blk_grown s_b6 hS E.nen)))) ?_
          by_cases h29 : FollowsOk (l.take k) s
          · refine E.GH.one (i := 9) (by kernel_rfl) rfl ?_
            refine E.GO.st rfl rfl rfl (E.ST.call rfl ent47 (E.evc rfl (E.evc rfl E.evn)) ((follows_t l s k (by omega) A1 c1 true (iff_of_true rfl h29) _ (by omega) (Kd.C_below hr L) hc).mono ?_))
            rintro e w29 ⟨rfl, l29⟩
            refine ⟨_, rfl, hh.trans (E.gbB l29), ?_⟩
            replace hh := hh.trans (E.gbB l29)
            replace b2 := blk_below b2 l29
            replace b6 := blk_below b6 l29
            replace L := below_step L l29
            replace lq := below_step lq l29
            refine E.GH.take (i := 10) rfl (by kernel_rfl) (by kernel_rfl) (by kernel_rfl) (by intro c a d v w h; cases d <;> exact h) rfl rfl rfl (fun w' hS => (E.Runs.not rfl rfl)) ?_
            refine E.GH.take (i := 11) rfl (by kernel_rfl) (by kernel_rfl) (by kernel_rfl) (by intro c a d v w h; cases d <;> exact h) rfl rfl rfl (fun w' hS => (E.Runs.pick_f rfl rfl rfl)) ?_
            refine E.GH.done (by kernel_rfl) ?_
            refine E.QG.code ?_
            refine E.CG.cond_f rfl ?_
            refine E.CG.skip ?_
            refine E.QG.block_normal ?_
            refine E.QG.code ?_
            refine E.CG.list ?_
            refine E.GL.run rfl rfl rfl (E.Runs.add rfl rfl rfl (IntWalk.i64_in _ (by omega))) ?_
            refine E.GL.run rfl rfl rfl (E.Runs.move rfl rfl) ?_
            refine E.GL.done ?_
            exact E.QG.round (k + 1) (E.subc rfl (E.subc rfl (E.subc rfl (E.subc rfl (E.subc rfl E.subn))))) ⟨by omega, lq, hp.trans ((okFrom_at hs).trans ⟨fun q => q.2, fun q => ⟨⟨h22, h29⟩, q⟩⟩)⟩ (by omega)
          · refine E.GH.one (i := 9) (by kernel_rfl) rfl ?_
            refine E.GO.st rfl rfl rfl (E.ST.call rfl ent47 (E.evc rfl (E.evc rfl E.evn)) ((follows_t l s k (by omega) A1 c1 false (iff_of_false Bool.false_ne_true h29) _ (by omega) (Kd.C_below hr L) hc).mono ?_))
            rintro e w29 ⟨rfl, l29⟩
            refine ⟨_, rfl, hh.trans (E.gbB l29), ?_⟩
            replace hh := hh.trans (E.gbB l29)
            replace b2 := blk_below b2 l29
            replace b6 := blk_below b6 l29
            replace L := below_step L l29
            replace lq := below_step lq l29
            refine E.GH.take (i := 10) rfl (by kernel_rfl) (by kernel_rfl) (by kernel_rfl) (by intro c a d v w h; cases d <;> exact h) rfl rfl rfl (fun w' hS => (E.Runs.not rfl rfl)) ?_
            refine E.GH.take (i := 11) rfl (by kernel_rfl) (by kernel_rfl) (by kernel_rfl) (by intro c a d v w h; cases d <;> exact h) rfl rfl rfl (fun w' hS => (E.Runs.pick_f rfl rfl rfl)) ?_
            refine E.GH.done (by kernel_rfl) ?_
            refine E.QG.code ?_
            refine E.CG.cond_t rfl ?_
            refine E.CG.seq ?_
            refine E.CG.list ?_
            refine E.GL.run rfl rfl rfl (E.Runs.assign rfl rfl) ?_
            refine E.GL.done ?_
            refine E.QG.code ?_
            refine E.CG.ret ?_
            refine E.QG.block_ret ?_
            refine E.QG.pass_ret ?_
            refine E.QG.pass_ret ?_
            refine E.QG.block_ret ?_
            refine E.QG.pass_ret ?_
            exact E.QG.result rfl rfl ⟨congrArg (fun x => Ending.returned (Value.int .i64 x)) (by unfold checkE; rw [if_pos h8, if_pos (by omega), if_neg (fun q => h29 ((okFrom_at hs).mp (hp.mp q)).1.2)]), L⟩
        · refine E.GH.one (i := 2) (by kernel_rfl) rfl ?_
          refine E.GO.st rfl rfl rfl (E.ST.call rfl ent46 (E.evc rfl (E.evc rfl E.evn)) ((slot_o H s false (iff_of_false Bool.false_ne_true h22) h8 _).mono ?_))
          rintro e w22 ⟨rfl, l22⟩
          refine ⟨_, rfl, hh.trans (E.gbB l22), ?_⟩
          replace hh := hh.trans (E.gbB l22)
          replace b2 := blk_below b2 l22
          replace b6 := blk_below b6 l22
          replace L := below_step L l22
          replace lq := below_step lq l22
          refine E.GH.take (i := 3) rfl (by kernel_rfl) (by kernel_rfl) (by kernel_rfl) (by intro c a d v w h; cases d <;> exact h) rfl rfl rfl (fun w' hS => (E.Runs.not rfl rfl)) ?_
          refine E.GH.take (i := 4) rfl (by kernel_rfl) (by kernel_rfl) (by kernel_rfl) (by intro c a d v w h; cases d <;> exact h) rfl rfl rfl (fun w' hS => (E.Runs.move rfl rfl)) ?_
          refine E.GH.pass (i := 5) rfl (by kernel_rfl) (by kernel_rfl) (by kernel_rfl) (by intro c a d v w h; cases d <;> exact h) rfl rfl rfl ?_
          refine E.GH.pass (i := 6) rfl (by kernel_rfl) (by kernel_rfl) (by kernel_rfl) (by intro c a d v w h; cases d <;> exact h) rfl rfl rfl ?_
          refine E.GH.pass (i := 7) rfl (by kernel_rfl) (by kernel_rfl) (by kernel_rfl) (by intro c a d v w h; cases d <;> exact h) rfl rfl rfl ?_
          refine E.GH.pass (i := 8) rfl (by kernel_rfl) (by kernel_rfl) (by kernel_rfl) (by intro c a d v w h; cases d <;> exact h) rfl rfl rfl ?_
          refine E.GH.pass (i := 9) rfl (by kernel_rfl) (by kernel_rfl) (by kernel_rfl) (by intro c a d v w h; cases d <;> exact h) rfl rfl rfl ?_
          refine E.GH.pass (i := 10) rfl (by kernel_rfl) (by kernel_rfl) (by kernel_rfl) (by intro c a d v w h; cases d <;> exact h) rfl rfl rfl ?_
          refine E.GH.take (i := 11) rfl (by kernel_rfl) (by kernel_rfl) (by kernel_rfl) (by intro c a d v w h; cases d <;> exact h) rfl rfl rfl (fun w' hS => (E.Runs.pick_t rfl rfl rfl)) ?_
          refine E.GH.done (by kernel_rfl) ?_
          refine E.QG.code ?_
          refine E.CG.cond_t rfl ?_
          refine E.CG.seq ?_
          refine E.CG.list ?_
          refine E.GL.run rfl rfl rfl (E.Runs.assign rfl rfl) ?_
          refine E.GL.done ?_
          refine E.QG.code ?_
          refine E.CG.ret ?_
          refine E.QG.block_ret ?_
          refine E.QG.pass_ret ?_
          refine E.QG.pass_ret ?_
          refine E.QG.block_ret ?_
          refine E.QG.pass_ret ?_
          exact E.QG.result rfl rfl ⟨congrArg (fun x => Ending.returned (Value.int .i64 x)) (by unfold checkE; rw [if_pos h8, if_pos (by omega), if_neg (fun q => h22 ((okFrom_at hs).mp (hp.mp q)).1.1)]), L⟩
      · refine E.GL.done ?_
        refine E.QG.code ?_
        refine E.CG.seq ?_
        refine E.CG.cond_f rfl ?_
        refine E.CG.exit ?_
        refine E.QG.pass_exit ?_
        refine E.QG.pass_exit ?_
        refine E.QG.block_here ?_
        refine E.QG.code ?_
        refine E.CG.seq ?_
        refine E.CG.list ?_
        refine E.GL.run rfl rfl rfl (E.Runs.assign rfl rfl) ?_
        refine E.GL.done ?_
        refine E.QG.code ?_
        refine E.CG.ret ?_
        exact E.QG.result rfl rfl ⟨congrArg (fun x => Ending.returned (Value.int .i64 x)) (by unfold checkE; rw [if_pos h8, if_pos (by omega), if_pos (hp.mpr (okFrom_end H l k (by omega)))]), L⟩
  · refine E.GL.st rfl rfl rfl (E.ST.call rfl ent55 (E.evc rfl E.evn) ((house_o H false (iff_of_false Bool.false_ne_true h8) _).mono ?_))
    rintro e w8 ⟨rfl, l8⟩
    refine ⟨_, rfl, ?_⟩
    replace b2 := blk_below b2 l8
    replace L := below_step L l8
    refine E.GL.run rfl rfl rfl (E.Runs.not rfl rfl) ?_
    refine E.GL.done ?_
    refine E.QG.code ?_
    refine E.CG.cond_t rfl ?_
    refine E.CG.seq ?_
    refine E.CG.list ?_
    refine E.GL.run rfl rfl rfl (E.Runs.assign rfl rfl) ?_
    refine E.GL.done ?_
    refine E.QG.code ?_
    refine E.CG.ret ?_
    refine E.QG.pass_ret ?_
    exact E.QG.result rfl rfl ⟨congrArg (fun x => Ending.returned (Value.int .i64 x)) (by unfold checkE; rw [if_neg h8]), L⟩

set_option maxRecDepth 100000 in
set_option maxHeartbeats 4000000 in

theorem check_ref (H : Hs) (l : List S36) (A1 : Option Addr) (c1 : Nat) (w : World) (hl : l.length ≤ 1000000000000) (hr : Kd.C k36 w A1 l.length l) (hc : l.length ≤ c1) :
    Calls Try.prog 19 #[hv H, .slice A1 l.length c1] w fun e w' => e = .returned (.int .i64 (checkE H l)) ∧ Below w.heap.size w w' := by
  have hu3 := Try.underlying3
  have hu25 := Try.underlying25
  have hu26 := Try.underlying26
  have hu36 := Try.underlying36
  obtain ⟨z3, o3⟩ := info_some info3s (by decide)
  obtain ⟨z36, o36⟩ := info_some info36s (by decide)
  refine E.enter (N := 82) Try.func19 rfl Try.ntmps19 (args := [hv H, .slice A1 l.length c1]) (by simp) ?_
  have L := Below.refl w.heap.size w
  refine E.CG.seq ?_
  refine E.CG.list ?_
  refine E.GL.st rfl rfl rfl (E.ST.box rfl rfl fun g2 w2 e2 b2 l2 => ?_)
  have h2_L : w.heap.size ≤ g2 := by rw [e2]; exact L.size
  replace L := below_step L l2
  refine E.GL.run rfl rfl rfl (E.Runs.assign rfl rfl) ?_
  refine E.GL.done ?_
  refine E.QG.code ?_
  refine E.CG.seq ?_
  refine E.CG.seq ?_
  refine E.CG.list ?_
  refine E.GL.run rfl rfl rfl (E.Runs.loads (cs := [.int .i64 H.teams, .int .i64 H.walk, .int .i64 H.early, .int .i64 H.foyer, .int .i64 H.dl, .int .i64 H.dh, .int .i64 H.cl, .int .i64 H.ch]) rfl rfl hu25 rfl info25s (blk_cells b2)) ?_
  by_cases h8 : HouseOk H
  · refine E.GL.st rfl rfl rfl (E.ST.call rfl ent49 (E.evc rfl E.evn) ((house_r H true (iff_of_true rfl h8) _).mono ?_))
    rintro e w8 ⟨rfl, l8⟩
    refine ⟨_, rfl, ?_⟩
    replace b2 := blk_below b2 l8
    replace L := below_step L l8
    refine E.GL.run rfl rfl rfl (E.Runs.not rfl rfl) ?_
    refine E.GL.done ?_
    refine E.QG.code ?_
    refine E.CG.cond_f rfl ?_
    refine E.CG.skip ?_
    refine E.QG.code ?_
    refine E.CG.seq ?_
    refine E.CG.seq ?_
    refine E.CG.list ?_
    refine E.GL.run rfl rfl rfl (E.Runs.move rfl rfl) ?_
    refine E.GL.run rfl rfl rfl (E.Runs.len rfl rfl hu26) ?_
    refine E.GL.cmp rfl rfl rfl (fun _ h => (E.Runs.gtr rfl rfl rfl h)) (fun h12 => ?_) (fun h12 => ?_)
    · refine E.GL.done ?_
      refine E.QG.code ?_
      refine E.CG.cond_t rfl ?_
      refine E.CG.seq ?_
      refine E.CG.list ?_
      refine E.GL.run rfl rfl rfl (E.Runs.assign rfl rfl) ?_
      refine E.GL.done ?_
      refine E.QG.code ?_
      refine E.CG.ret ?_
      refine E.QG.pass_ret ?_
      exact E.QG.result rfl rfl ⟨congrArg (fun x => Ending.returned (Value.int .i64 x)) (by unfold checkE; rw [if_pos h8, if_neg (by omega)]), L⟩
    · refine E.GL.done ?_
      refine E.QG.code ?_
      refine E.CG.cond_f rfl ?_
      refine E.CG.skip ?_
      refine E.QG.code ?_
      refine E.CG.seq ?_
      refine E.CG.seq ?_
      refine E.CG.list ?_
      refine E.GL.run rfl rfl rfl (E.Runs.assign rfl rfl) ?_
      refine E.GL.done ?_
      refine E.QG.code ?_
      refine E.CG.block ?_
      have s6_b2 := b2
      have s6_L := L
      refine E.CG.loop (fun (i : Nat) => [(1, .slice A1 l.length c1), (2, .pointer (some ⟨g2, 0, none⟩)), (5, .int .i64 i)]) (fun i w' => i ≤ l.length ∧ Below w8.heap.size w8 w' ∧ (OkFrom H l 0 ↔ OkFrom H l i)) (fun i => l.length - i) 0 (E.subc rfl (E.subc rfl (E.subc rfl (E.subn)))) ⟨Nat.zero_le _, Below.refl _ _, Iff.rfl⟩ ?_
      rintro i w6 ⟨hi, lq, hp⟩
      replace b2 := blk_below b2 lq
      replace L := below_step L lq
      refine E.CG.seq ?_
      refine E.CG.seq ?_
      refine E.CG.list ?_
      refine E.GL.run rfl rfl rfl (E.Runs.move rfl rfl) ?_
      refine E.GL.run rfl rfl rfl (E.Runs.move rfl rfl) ?_
      refine E.GL.run rfl rfl rfl (E.Runs.len rfl rfl hu26) ?_
      refine E.GL.cmp rfl rfl rfl (fun _ h => (E.Runs.lss rfl rfl rfl h)) (fun h16 => ?_) (fun h16 => ?_)
      · have hlt : i < l.length := by omega
        obtain ⟨s, hs⟩ : ∃ s, l[i]? = some s := ⟨_, List.getElem?_eq_getElem hlt⟩
        obtain ⟨ad, eA, S⟩ := slot_at hr hs
        subst eA
        refine E.GL.done ?_
        refine E.QG.code ?_
        refine E.CG.cond_t rfl ?_
        refine E.CG.skip ?_
        refine E.QG.code ?_
        refine E.CG.seq ?_
        refine E.CG.block ?_
        refine E.CG.seq ?_
        refine E.CG.seq ?_
        refine E.CG.heldH (none) (by kernel_rfl) fun v8 lD hh => ?_
        replace b2 := blk_below b2 lD
        replace L := below_step L lD
        replace lq := below_step lq lD
        clear lD
        have s_b2 := b2
        have s_L := L
        have s_lq := lq
        refine E.GH.take (i := 0) rfl (by kernel_rfl) (by kernel_rfl) (by kernel_rfl) (by intro c a d v w h; cases d <;> exact h) rfl rfl rfl (fun w' hS => (E.Runs.loads (cs := [.int .i64 H.teams, .int .i64 H.walk, .int .i64 H.early, .int .i64 H.foyer, .int .i64 H.dl, .int .i64 H.dh, .int .i64 H.cl, .int .i64 H.ch]) rfl rfl hu25 rfl info25s (blk_cells (blk_grown s_b2 hS E.nen)))) ?_
        refine E.GH.take (i := 1) rfl (by kernel_rfl) (by kernel_rfl) (by kernel_rfl) (by intro c a d v w h; cases d <;> exact h) rfl rfl rfl (fun w' hS => (E.Runs.move rfl rfl)) ?_
        refine E.GH.take (i := 2) rfl (by kernel_rfl) (by kernel_rfl) (by kernel_rfl) (by intro c a d v w h; cases d <;> exact h) rfl rfl rfl (fun w' hS => (E.Runs.move rfl rfl)) ?_
        refine E.GH.take (i := 3) rfl (by kernel_rfl) (by kernel_rfl) (by kernel_rfl) (by intro c a d v w h; cases d <;> exact h) rfl rfl rfl (fun w' hS => (E.Runs.indexAddrA rfl rfl rfl hu26 (by assumption) (by assumption) (by assumption) (by first | rfl | assumption) rfl)) ?_
        refine E.GH.take (i := 4) rfl (by kernel_rfl) (by kernel_rfl) (by kernel_rfl) (by intro c a d v w h; cases d <;> exact h) rfl rfl rfl (fun w' hS => (E.Runs.loads (cs := [.int .i64 s.f0, .int .i64 s.f1, .int .i64 s.f2.f0, .int .i64 s.f2.f1, .int .i64 s.f3, .int .i64 s.f4]) rfl rfl hu36 rfl info36s (E.cellsB (below_step s_L (E.belowG hS)) S.cells))) ?_
        by_cases h24 : SlotOk H s
        · refine E.GH.one (i := 5) (by kernel_rfl) rfl ?_
          refine E.GO.st rfl rfl rfl (E.ST.call rfl ent16 (E.evc rfl (E.evc rfl E.evn)) ((slot_r H s true (iff_of_true rfl h24) h8 _).mono ?_))
          rintro e w24 ⟨rfl, l24⟩
          refine ⟨_, rfl, hh.trans (E.gbB l24), ?_⟩
          replace hh := hh.trans (E.gbB l24)
          replace b2 := blk_below b2 l24
          replace L := below_step L l24
          replace lq := below_step lq l24
          refine E.GH.take (i := 6) rfl (by kernel_rfl) (by kernel_rfl) (by kernel_rfl) (by intro c a d v w h; cases d <;> exact h) rfl rfl rfl (fun w' hS => (E.Runs.not rfl rfl)) ?_
          refine E.GH.take (i := 7) rfl (by kernel_rfl) (by kernel_rfl) (by kernel_rfl) (by intro c a d v w h; cases d <;> exact h) rfl rfl rfl (fun w' hS => (E.Runs.move rfl rfl)) ?_
          refine E.GH.take (i := 8) rfl (by kernel_rfl) (by kernel_rfl) (by kernel_rfl) (by intro c a d v w h; cases d <;> exact h) rfl rfl rfl (fun w' hS => (E.Runs.move rfl rfl)) ?_
          refine E.GH.take (i := 9) rfl (by kernel_rfl) (by kernel_rfl) (by kernel_rfl) (by intro c a d v w h; cases d <;> exact h) rfl rfl rfl (fun w' hS => (E.Runs.move rfl rfl)) ?_
          refine E.GH.take (i := 10) rfl (by kernel_rfl) (by kernel_rfl) (by kernel_rfl) (by intro c a d v w h; cases d <;> exact h) rfl rfl rfl (fun w' hS => (E.Runs.indexAddrA rfl rfl rfl hu26 (by assumption) (by assumption) (by assumption) (by first | rfl | assumption) rfl)) ?_
          refine E.GH.take (i := 11) rfl (by kernel_rfl) (by kernel_rfl) (by kernel_rfl) (by intro c a d v w h; cases d <;> exact h) rfl rfl rfl (fun w' hS => (E.Runs.fieldAddr rfl rfl hu36 rfl (by assumption) rfl)) ?_
          refine E.GH.take (i := 12) rfl (by kernel_rfl) (by kernel_rfl) (by kernel_rfl) (by intro c a d v w h; cases d <;> exact h) rfl rfl rfl (fun w' hS => (E.Runs.load rfl rfl hu3 (by first | exact E.keeps hS (E.blkc (by assumption) rfl) (by first | exact E.nen | exact E.nes (by assumption) | exact E.nes (Ne.symm (by assumption))) | exact pw_cell_below (below_step s_L (E.belowG hS)) (by assumption) | exact pw_cell_below (below_step s_L (E.belowG hS)) S.c0 | exact pw_cell_below (below_step s_L (E.belowG hS)) S.c1 | exact pw_cell_below (below_step s_L (E.belowG hS)) S.c2 | exact pw_cell_below (below_step s_L (E.belowG hS)) S.c3 | exact pw_cell_below (below_step s_L (E.belowG hS)) S.c4 | exact pw_cell_below (below_step s_L (E.belowG hS)) S.c5 | exact pw_cell_below (below_step s_lq (E.belowG hS)) (by assumption)))) ?_
          by_cases h32 : 0 ≤ s.f1 ∧ s.f1 ≤ 2000
          · refine E.GH.one (i := 13) (by kernel_rfl) rfl ?_
            refine E.GO.st rfl rfl rfl (E.ST.call rfl ent44 (E.evc rfl (E.evc rfl (E.evc rfl E.evn))) ((within_row s.f1 0 2000 true (iff_of_true rfl h32) _).mono ?_))
            rintro e w32 ⟨rfl, l32⟩
            refine ⟨_, rfl, hh.trans (E.gbB l32), ?_⟩
            replace hh := hh.trans (E.gbB l32)
            replace b2 := blk_below b2 l32
            replace L := below_step L l32
            replace lq := below_step lq l32
            refine E.GH.take (i := 14) rfl (by kernel_rfl) (by kernel_rfl) (by kernel_rfl) (by intro c a d v w h; cases d <;> exact h) rfl rfl rfl (fun w' hS => (E.Runs.not rfl rfl)) ?_
            refine E.GH.take (i := 15) rfl (by kernel_rfl) (by kernel_rfl) (by kernel_rfl) (by intro c a d v w h; cases d <;> exact h) rfl rfl rfl (fun w' hS => (E.Runs.pick_f rfl rfl rfl)) ?_
            refine E.GH.take (i := 16) rfl (by kernel_rfl) (by kernel_rfl) (by kernel_rfl) (by intro c a d v w h; cases d <;> exact h) rfl rfl rfl (fun w' hS => (E.Runs.move rfl rfl)) ?_
            refine E.GH.take (i := 17) rfl (by kernel_rfl) (by kernel_rfl) (by kernel_rfl) (by intro c a d v w h; cases d <;> exact h) rfl rfl rfl (fun w' hS => (E.Runs.move rfl rfl)) ?_
            refine E.GH.cmp (i := 18) rfl (by kernel_rfl) (by kernel_rfl) (by kernel_rfl) (by intro c a d v w h; cases d <;> exact h) rfl rfl rfl (fun _ h w' hS => (E.Runs.gtr rfl rfl rfl h)) (fun h37 => ?_) (fun h37 => ?_)
            · have hi0 : 0 < i := by omega
              obtain ⟨z, hz⟩ : ∃ z, l[i - 1]? = some z := ⟨_, List.getElem?_eq_getElem (by omega)⟩
              obtain ⟨ad2, eA2, Z⟩ := slot_at hr hz
              cases eA2
              have hli : ((i - 1 : Nat) : Int) < (l.length : Int) := by omega
              refine E.GH.take (i := 19) rfl (by kernel_rfl) (by kernel_rfl) (by kernel_rfl) (by intro c a d v w h; cases d <;> exact h) rfl rfl rfl (fun w' hS => (E.Runs.move rfl rfl)) ?_
              refine E.GH.take (i := 20) rfl (by kernel_rfl) (by kernel_rfl) (by kernel_rfl) (by intro c a d v w h; cases d <;> exact h) rfl rfl rfl (fun w' hS => (E.Runs.move rfl rfl)) ?_
              refine E.GH.take (i := 21) rfl (by kernel_rfl) (by kernel_rfl) (by kernel_rfl) (by intro c a d v w h; cases d <;> exact h) rfl rfl rfl (fun w' hS => (E.Runs.move rfl rfl)) ?_
              refine E.GH.take (i := 22) rfl (by kernel_rfl) (by kernel_rfl) (by kernel_rfl) (by intro c a d v w h; cases d <;> exact h) rfl rfl rfl (fun w' hS => (E.Runs.indexAddrA rfl rfl rfl hu26 (by assumption) (by assumption) (by assumption) (by first | rfl | assumption) rfl)) ?_
              refine E.GH.take (i := 23) rfl (by kernel_rfl) (by kernel_rfl) (by kernel_rfl) (by intro c a d v w h; cases d <;> exact h) rfl rfl rfl (fun w' hS => (E.Runs.fieldAddr rfl rfl hu36 rfl (by assumption) rfl)) ?_
              refine E.GH.take (i := 24) rfl (by kernel_rfl) (by kernel_rfl) (by kernel_rfl) (by intro c a d v w h; cases d <;> exact h) rfl rfl rfl (fun w' hS => (E.Runs.load rfl rfl hu3 (by first | exact E.keeps hS (E.blkc (by assumption) rfl) (by first | exact E.nen | exact E.nes (by assumption) | exact E.nes (Ne.symm (by assumption))) | exact pw_cell_below (below_step s_L (E.belowG hS)) (by assumption) | exact pw_cell_below (below_step s_L (E.belowG hS)) S.c0 | exact pw_cell_below (below_step s_L (E.belowG hS)) S.c1 | exact pw_cell_below (below_step s_L (E.belowG hS)) S.c2 | exact pw_cell_below (below_step s_L (E.belowG hS)) S.c3 | exact pw_cell_below (below_step s_L (E.belowG hS)) S.c4 | exact pw_cell_below (below_step s_L (E.belowG hS)) S.c5 | exact pw_cell_below (below_step s_L (E.belowG hS)) Z.c0 | exact pw_cell_below (below_step s_L (E.belowG hS)) Z.c1 | exact pw_cell_below (below_step s_L (E.belowG hS)) Z.c2 | exact pw_cell_below (below_step s_L (E.belowG hS)) Z.c3 | exact pw_cell_below (below_step s_L (E.belowG hS)) Z.c4 | exact pw_cell_below (below_step s_L (E.belowG hS)) Z.c5 | exact pw_cell_below (below_step s_lq (E.belowG hS)) (by assumption)))) ?_
              refine E.GH.take (i := 25) rfl (by kernel_rfl) (by kernel_rfl) (by kernel_rfl) (by intro c a d v w h; cases d <;> exact h) rfl rfl rfl (fun w' hS => (E.Runs.move rfl rfl)) ?_
              refine E.GH.take (i := 26) rfl (by kernel_rfl) (by kernel_rfl) (by kernel_rfl) (by intro c a d v w h; cases d <;> exact h) rfl rfl rfl (fun w' hS => (E.Runs.move rfl rfl)) ?_
              refine E.GH.take (i := 27) rfl (by kernel_rfl) (by kernel_rfl) (by kernel_rfl) (by intro c a d v w h; cases d <;> exact h) rfl rfl rfl (fun w' hS => (E.Runs.sub rfl rfl rfl (show _ = ((i - 1 : Nat) : Int) from by rw [IntWalk.i64_in _ (by omega)]; omega))) ?_
              refine E.GH.take (i := 28) rfl (by kernel_rfl) (by kernel_rfl) (by kernel_rfl) (by intro c a d v w h; cases d <;> exact h) rfl rfl rfl (fun w' hS => (E.Runs.indexAddrA rfl rfl rfl hu26 (by assumption) (by assumption) (by assumption) (by first | rfl | assumption) rfl)) ?_
              refine E.GH.take (i := 29) rfl (by kernel_rfl) (by kernel_rfl) (by kernel_rfl) (by intro c a d v w h; cases d <;> exact h) rfl rfl rfl (fun w' hS => (E.Runs.fieldAddr rfl rfl hu36 rfl (by assumption) rfl)) ?_
              refine E.GH.take (i := 30) rfl (by kernel_rfl) (by kernel_rfl) (by kernel_rfl) (by intro c a d v w h; cases d <;> exact h) rfl rfl rfl (fun w' hS => (E.Runs.load rfl rfl hu3 (by first | exact E.keeps hS (E.blkc (by assumption) rfl) (by first | exact E.nen | exact E.nes (by assumption) | exact E.nes (Ne.symm (by assumption))) | exact pw_cell_below (below_step s_L (E.belowG hS)) (by assumption) | exact pw_cell_below (below_step s_L (E.belowG hS)) S.c0 | exact pw_cell_below (below_step s_L (E.belowG hS)) S.c1 | exact pw_cell_below (below_step s_L (E.belowG hS)) S.c2 | exact pw_cell_below (below_step s_L (E.belowG hS)) S.c3 | exact pw_cell_below (below_step s_L (E.belowG hS)) S.c4 | exact pw_cell_below (below_step s_L (E.belowG hS)) S.c5 | exact pw_cell_below (below_step s_L (E.belowG hS)) Z.c0 | exact pw_cell_below (below_step s_L (E.belowG hS)) Z.c1 | exact pw_cell_below (below_step s_L (E.belowG hS)) Z.c2 | exact pw_cell_below (below_step s_L (E.belowG hS)) Z.c3 | exact pw_cell_below (below_step s_L (E.belowG hS)) Z.c4 | exact pw_cell_below (below_step s_L (E.belowG hS)) Z.c5 | exact pw_cell_below (below_step s_lq (E.belowG hS)) (by assumption)))) ?_
              refine E.GH.cmp (i := 31) rfl (by kernel_rfl) (by kernel_rfl) (by kernel_rfl) (by intro c a d v w h; cases d <;> exact h) rfl rfl rfl (fun _ h w' hS => (E.Runs.lss rfl rfl rfl h)) (fun h50 => ?_) (fun h50 => ?_)
              · refine E.GH.take (i := 32) rfl (by kernel_rfl) (by kernel_rfl) (by kernel_rfl) (by intro c a d v w h; cases d <;> exact h) rfl rfl rfl (fun w' hS => (E.Runs.pick_t rfl rfl rfl)) ?_
                refine E.GH.take (i := 33) rfl (by kernel_rfl) (by kernel_rfl) (by kernel_rfl) (by intro c a d v w h; cases d <;> exact h) rfl rfl rfl (fun w' hS => (E.Runs.pick_f rfl rfl rfl)) ?_
                refine E.GH.done (by kernel_rfl) ?_
                refine E.QG.code ?_
                refine E.CG.cond_t rfl ?_
                refine E.CG.seq ?_
                refine E.CG.list ?_
                refine E.GL.run rfl rfl rfl (E.Runs.assign rfl rfl) ?_
                refine E.GL.done ?_
                refine E.QG.code ?_
                refine E.CG.ret ?_
                refine E.QG.pass_ret ?_
                refine E.QG.block_ret ?_
                refine E.QG.pass_ret ?_
                refine E.QG.pass_ret ?_
                refine E.QG.block_ret ?_
                refine E.QG.pass_ret ?_
                exact E.QG.result rfl rfl ⟨congrArg (fun x => Ending.returned (Value.int .i64 x)) (by unfold checkE; rw [if_pos h8, if_pos (by omega), if_neg (fun q => by have := ((okFrom_at hs).mp (hp.mp q)).1.2.2.1 (fun hh => by have h9 := congrArg List.length hh; rw [List.length_take, List.length_nil] at h9; omega); rw [take_last hi0 (by omega) hz] at this; omega)]), L⟩
              · refine E.GH.take (i := 32) rfl (by kernel_rfl) (by kernel_rfl) (by kernel_rfl) (by intro c a d v w h; cases d <;> exact h) rfl rfl rfl (fun w' hS => (E.Runs.pick_t rfl rfl rfl)) ?_
                refine E.GH.take (i := 33) rfl (by kernel_rfl) (by kernel_rfl) (by kernel_rfl) (by intro c a d v w h; cases d <;> exact h) rfl rfl rfl (fun w' hS => (E.Runs.pick_f rfl rfl rfl)) ?_
                refine E.GH.done (by kernel_rfl) ?_
                refine E.QG.code ?_
                refine E.CG.cond_f rfl ?_
                refine E.CG.skip ?_
                refine E.QG.code ?_
                refine E.CG.seq ?_
                have hlast : l.take i ≠ [] → (rd_T36 (l.take i) (((l.take i).length : Int) - 1)).f1 ≤ s.f1 := by
                  intro hne
                  first
                    | (rw [take_last hi0 (by omega) hz]; omega)
                    | (exact absurd (show l.take i = [] by rw [show i = 0 by omega]; rfl) hne)
                refine E.CG.list ?_
                refine E.GL.run rfl rfl rfl (E.Runs.assign rfl rfl) ?_
                refine E.GL.done ?_
                refine E.QG.code ?_
                refine E.CG.block ?_
                have s11_b2 := b2
                have s11_L := L
                have s11_lq := lq
                refine E.CG.loop (fun (k : Nat) => [(1, .slice (some ad) l.length c1), (2, .pointer (some ⟨g2, 0, none⟩)), (5, .int .i64 i), (6, .int .i64 k)]) (fun k w' => k ≤ i ∧ Below w32.heap.size w32 w' ∧ ∀ (j : Nat) (o : S36), j < k → l[j]? = some o → ¬ (o.f0 = s.f0 ∧ o.f1 = s.f1)) (fun k => i - k) 0 (E.subc rfl (E.subc rfl (E.subc rfl (E.subc rfl (E.subn))))) ⟨Nat.zero_le _, Below.refl _ _, fun j o hj => absurd hj (Nat.not_lt_zero _)⟩ ?_
                rintro k w11 ⟨hk, lk, hq⟩
                replace b2 := blk_below b2 lk
                replace L := below_step L lk
                replace lq := below_step lq lk
                refine E.CG.seq ?_
                refine E.CG.seq ?_
                refine E.CG.list ?_
                refine E.GL.run rfl rfl rfl (E.Runs.move rfl rfl) ?_
                refine E.GL.run rfl rfl rfl (E.Runs.move rfl rfl) ?_
                refine E.GL.cmp rfl rfl rfl (fun _ h => (E.Runs.lss rfl rfl rfl h)) (fun h55 => ?_) (fun h55 => ?_)
                · obtain ⟨o, ho⟩ : ∃ s, l[k]? = some s := ⟨_, List.getElem?_eq_getElem (by omega)⟩
                  obtain ⟨ad3, eA3, S3⟩ := slot_at hr ho
                  cases eA3
                  have hkl : (k : Int) < (l.length : Int) := by omega
                  refine E.GL.done ?_
                  refine E.QG.code ?_
                  refine E.CG.cond_t rfl ?_
                  refine E.CG.skip ?_
                  refine E.QG.code ?_
                  refine E.CG.seq ?_
                  refine E.CG.block ?_
                  refine E.CG.seq ?_
                  refine E.CG.quietF (by kernel_rfl) rfl (by kernel_rfl) (by kernel_rfl) ?_
                  refine E.GQ.run rfl rfl rfl (E.Runs.move rfl rfl) ?_
                  refine E.GQ.run rfl rfl rfl (E.Runs.move rfl rfl) ?_
                  refine E.GQ.run rfl rfl rfl (E.Runs.indexAddrA rfl rfl rfl hu26 (by assumption) (by assumption) (by assumption) (by first | rfl | assumption) rfl) ?_
                  refine E.GQ.run rfl rfl rfl (E.Runs.fieldAddr rfl rfl hu36 rfl (by assumption) rfl) ?_
                  refine E.GQ.run rfl rfl rfl (E.Runs.load rfl rfl hu3 (by first | assumption | exact E.blkc (by assumption) rfl | exact pw_cell_below L (by assumption) | exact pw_cell_below lq (by assumption) | exact pw_cell_below lk (by assumption) | exact pw_cell_below L S.c0 | exact pw_cell_below L S.c1 | exact pw_cell_below L S.c2 | exact pw_cell_below L S.c3 | exact pw_cell_below L S.c4 | exact pw_cell_below L S.c5 | exact pw_cell_below L Z.c0 | exact pw_cell_below L Z.c1 | exact pw_cell_below L Z.c2 | exact pw_cell_below L Z.c3 | exact pw_cell_below L Z.c4 | exact pw_cell_below L Z.c5 | exact pw_cell_below L S3.c0 | exact pw_cell_below L S3.c1 | exact pw_cell_below L S3.c2 | exact pw_cell_below L S3.c3 | exact pw_cell_below L S3.c4 | exact pw_cell_below L S3.c5)) ?_
                  refine E.GQ.run rfl rfl rfl (E.Runs.move rfl rfl) ?_
                  refine E.GQ.run rfl rfl rfl (E.Runs.move rfl rfl) ?_
                  refine E.GQ.run rfl rfl rfl (E.Runs.indexAddrA rfl rfl rfl hu26 (by assumption) (by assumption) (by assumption) (by first | rfl | assumption) rfl) ?_
                  refine E.GQ.run rfl rfl rfl (E.Runs.fieldAddr rfl rfl hu36 rfl (by assumption) rfl) ?_
                  refine E.GQ.run rfl rfl rfl (E.Runs.load rfl rfl hu3 (by first | assumption | exact E.blkc (by assumption) rfl | exact pw_cell_below L (by assumption) | exact pw_cell_below lq (by assumption) | exact pw_cell_below lk (by assumption) | exact pw_cell_below L S.c0 | exact pw_cell_below L S.c1 | exact pw_cell_below L S.c2 | exact pw_cell_below L S.c3 | exact pw_cell_below L S.c4 | exact pw_cell_below L S.c5 | exact pw_cell_below L Z.c0 | exact pw_cell_below L Z.c1 | exact pw_cell_below L Z.c2 | exact pw_cell_below L Z.c3 | exact pw_cell_below L Z.c4 | exact pw_cell_below L Z.c5 | exact pw_cell_below L S3.c0 | exact pw_cell_below L S3.c1 | exact pw_cell_below L S3.c2 | exact pw_cell_below L S3.c3 | exact pw_cell_below L S3.c4 | exact pw_cell_below L S3.c5)) ?_
                  refine E.GQ.cmp rfl rfl rfl (fun _ h => (E.Runs.eql rfl rfl rfl h)) (fun h68 => ?_) (fun h68 => ?_)
                  · refine E.GQ.run rfl rfl rfl (E.Runs.move rfl rfl) ?_
                    refine E.GQ.run rfl rfl rfl (E.Runs.move rfl rfl) ?_
                    refine E.GQ.run rfl rfl rfl (E.Runs.move rfl rfl) ?_
                    refine E.GQ.run rfl rfl rfl (E.Runs.indexAddrA rfl rfl rfl hu26 (by assumption) (by assumption) (by assumption) (by first | rfl | assumption) rfl) ?_
                    refine E.GQ.run rfl rfl rfl (E.Runs.fieldAddr rfl rfl hu36 rfl (by assumption) rfl) ?_
                    refine E.GQ.run rfl rfl rfl (E.Runs.load rfl rfl hu3 (by first | assumption | exact E.blkc (by assumption) rfl | exact pw_cell_below L (by assumption) | exact pw_cell_below lq (by assumption) | exact pw_cell_below lk (by assumption) | exact pw_cell_below L S.c0 | exact pw_cell_below L S.c1 | exact pw_cell_below L S.c2 | exact pw_cell_below L S.c3 | exact pw_cell_below L S.c4 | exact pw_cell_below L S.c5 | exact pw_cell_below L Z.c0 | exact pw_cell_below L Z.c1 | exact pw_cell_below L Z.c2 | exact pw_cell_below L Z.c3 | exact pw_cell_below L Z.c4 | exact pw_cell_below L Z.c5 | exact pw_cell_below L S3.c0 | exact pw_cell_below L S3.c1 | exact pw_cell_below L S3.c2 | exact pw_cell_below L S3.c3 | exact pw_cell_below L S3.c4 | exact pw_cell_below L S3.c5)) ?_
                    refine E.GQ.run rfl rfl rfl (E.Runs.move rfl rfl) ?_
                    refine E.GQ.run rfl rfl rfl (E.Runs.move rfl rfl) ?_
                    refine E.GQ.run rfl rfl rfl (E.Runs.indexAddrA rfl rfl rfl hu26 (by assumption) (by assumption) (by assumption) (by first | rfl | assumption) rfl) ?_
                    refine E.GQ.run rfl rfl rfl (E.Runs.fieldAddr rfl rfl hu36 rfl (by assumption) rfl) ?_
                    refine E.GQ.run rfl rfl rfl (E.Runs.load rfl rfl hu3 (by first | assumption | exact E.blkc (by assumption) rfl | exact pw_cell_below L (by assumption) | exact pw_cell_below lq (by assumption) | exact pw_cell_below lk (by assumption) | exact pw_cell_below L S.c0 | exact pw_cell_below L S.c1 | exact pw_cell_below L S.c2 | exact pw_cell_below L S.c3 | exact pw_cell_below L S.c4 | exact pw_cell_below L S.c5 | exact pw_cell_below L Z.c0 | exact pw_cell_below L Z.c1 | exact pw_cell_below L Z.c2 | exact pw_cell_below L Z.c3 | exact pw_cell_below L Z.c4 | exact pw_cell_below L Z.c5 | exact pw_cell_below L S3.c0 | exact pw_cell_below L S3.c1 | exact pw_cell_below L S3.c2 | exact pw_cell_below L S3.c3 | exact pw_cell_below L S3.c4 | exact pw_cell_below L S3.c5)) ?_
                    refine E.GQ.cmp rfl rfl rfl (fun _ h => (E.Runs.eql rfl rfl rfl h)) (fun h80 => ?_) (fun h80 => ?_)
                    · refine E.GQ.run rfl rfl rfl (E.Runs.pick_t rfl rfl rfl) ?_
                      refine E.GQ.doneB fun v13 lD => ?_
                      replace b2 := blk_below b2 lD
                      replace L := below_step L lD
                      replace lq := below_step lq lD
                      replace lk := below_step lk lD
                      clear lD
                      refine E.QG.code ?_
                      refine E.CG.cond_t rfl ?_
                      refine E.CG.seq ?_
                      refine E.CG.list ?_
                      refine E.GL.run rfl rfl rfl (E.Runs.assign rfl rfl) ?_
                      refine E.GL.done ?_
                      refine E.QG.code ?_
                      refine E.CG.ret ?_
                      refine E.QG.block_ret ?_
                      refine E.QG.pass_ret ?_
                      refine E.QG.pass_ret ?_
                      refine E.QG.block_ret ?_
                      refine E.QG.block_ret ?_
                      refine E.QG.pass_ret ?_
                      refine E.QG.pass_ret ?_
                      refine E.QG.block_ret ?_
                      refine E.QG.pass_ret ?_
                      exact E.QG.result rfl rfl ⟨congrArg (fun x => Ending.returned (Value.int .i64 x)) (by unfold checkE; rw [if_pos h8, if_pos (by omega), if_neg (fun q => ((okFrom_at hs).mp (hp.mp q)).1.2.2.2 o (List.mem_of_getElem? (i := k) (by rw [List.getElem?_take, if_pos (by omega)]; exact ho)) ⟨h68, h80⟩)]), L⟩
                    · refine E.GQ.run rfl rfl rfl (E.Runs.pick_t rfl rfl rfl) ?_
                      refine E.GQ.doneB fun v13 lD => ?_
                      replace b2 := blk_below b2 lD
                      replace L := below_step L lD
                      replace lq := below_step lq lD
                      replace lk := below_step lk lD
                      clear lD
                      refine E.QG.code ?_
                      refine E.CG.cond_f rfl ?_
                      refine E.CG.skip ?_
                      refine E.QG.block_normal ?_
                      refine E.QG.code ?_
                      refine E.CG.list ?_
                      refine E.GL.run rfl rfl rfl (E.Runs.move rfl rfl) ?_
                      refine E.GL.run rfl rfl rfl (E.Runs.add rfl rfl rfl (IntWalk.i64_in _ (by omega))) ?_
                      refine E.GL.run rfl rfl rfl (E.Runs.assign rfl rfl) ?_
                      refine E.GL.done ?_
                      exact E.QG.round (k + 1) (E.subc rfl (E.subc rfl (E.subc rfl (E.subc rfl E.subn)))) ⟨by omega, lk, fun j o' hj h1 => by
                          rcases Nat.lt_succ_iff_lt_or_eq.mp hj with hj | rfl
                          · exact hq j o' hj h1
                          · rw [ho] at h1
                            cases h1
                            first | exact fun hh => h68 hh.1 | exact fun hh => h80 hh.2⟩ (by omega)
                  · refine E.GQ.run rfl rfl rfl (E.Runs.move rfl rfl) ?_
                    refine E.GQ.skip rfl rfl rfl ?_
                    refine E.GQ.skip rfl rfl rfl ?_
                    refine E.GQ.skip rfl rfl rfl ?_
                    refine E.GQ.skip rfl rfl rfl ?_
                    refine E.GQ.skip rfl rfl rfl ?_
                    refine E.GQ.skip rfl rfl rfl ?_
                    refine E.GQ.skip rfl rfl rfl ?_
                    refine E.GQ.skip rfl rfl rfl ?_
                    refine E.GQ.skip rfl rfl rfl ?_
                    refine E.GQ.skip rfl rfl rfl ?_
                    refine E.GQ.skip rfl rfl rfl ?_
                    refine E.GQ.run rfl rfl rfl (E.Runs.pick_f rfl rfl rfl) ?_
                    refine E.GQ.doneB fun v13 lD => ?_
                    replace b2 := blk_below b2 lD
                    replace L := below_step L lD
                    replace lq := below_step lq lD
                    replace lk := below_step lk lD
                    clear lD
                    refine E.QG.code ?_
                    refine E.CG.cond_f rfl ?_
                    refine E.CG.skip ?_
                    refine E.QG.block_normal ?_
                    refine E.QG.code ?_
                    refine E.CG.list ?_
                    refine E.GL.run rfl rfl rfl (E.Runs.move rfl rfl) ?_
                    refine E.GL.run rfl rfl rfl (E.Runs.add rfl rfl rfl (IntWalk.i64_in _ (by omega))) ?_
                    refine E.GL.run rfl rfl rfl (E.Runs.assign rfl rfl) ?_
                    refine E.GL.done ?_
                    exact E.QG.round (k + 1) (E.subc rfl (E.subc rfl (E.subc rfl (E.subc rfl E.subn)))) ⟨by omega, lk, fun j o' hj h1 => by
                        rcases Nat.lt_succ_iff_lt_or_eq.mp hj with hj | rfl
                        · exact hq j o' hj h1
                        · rw [ho] at h1
                          cases h1
                          first | exact fun hh => h68 hh.1 | exact fun hh => h80 hh.2⟩ (by omega)
                · refine E.GL.done ?_
                  refine E.QG.code ?_
                  refine E.CG.cond_f rfl ?_
                  refine E.CG.exit ?_
                  refine E.QG.pass_exit ?_
                  refine E.QG.pass_exit ?_
                  refine E.QG.block_here ?_
                  refine E.QG.block_normal ?_
                  refine E.QG.code ?_
                  refine E.CG.list ?_
                  refine E.GL.run rfl rfl rfl (E.Runs.move rfl rfl) ?_
                  refine E.GL.run rfl rfl rfl (E.Runs.add rfl rfl rfl (IntWalk.i64_in _ (by omega))) ?_
                  refine E.GL.run rfl rfl rfl (E.Runs.assign rfl rfl) ?_
                  refine E.GL.done ?_
                  exact E.QG.round (i + 1) (E.subc rfl (E.subc rfl (E.subc rfl E.subn))) ⟨by omega, lq, hp.trans ((okFrom_at hs).trans ⟨fun q => q.2, fun q => ⟨⟨h24, h32, hlast, fun o ho hh => by
                      obtain ⟨j, hj⟩ := List.mem_iff_getElem?.mp ho
                      have hji : j < i := by have := (List.getElem?_eq_some_iff.1 hj).1; rw [List.length_take] at this; omega
                      exact hq j o (by omega) (by rw [List.getElem?_take, if_pos hji] at hj; exact hj) hh⟩, q⟩⟩)⟩ (by omega)
            · refine E.GH.take (i := 19) rfl (by kernel_rfl) (by kernel_rfl) (by kernel_rfl) (by intro c a d v w h; cases d <;> exact h) rfl rfl rfl (fun w' hS => (E.Runs.move rfl rfl)) ?_
              refine E.GH.pass (i := 20) rfl (by kernel_rfl) (by kernel_rfl) (by kernel_rfl) (by intro c a d v w h; cases d <;> exact h) rfl rfl rfl ?_
              refine E.GH.pass (i := 21) rfl (by kernel_rfl) (by kernel_rfl) (by kernel_rfl) (by intro c a d v w h; cases d <;> exact h) rfl rfl rfl ?_
              refine E.GH.pass (i := 22) rfl (by kernel_rfl) (by kernel_rfl) (by kernel_rfl) (by intro c a d v w h; cases d <;> exact h) rfl rfl rfl ?_
              refine E.GH.pass (i := 23) rfl (by kernel_rfl) (by kernel_rfl) (by kernel_rfl) (by intro c a d v w h; cases d <;> exact h) rfl rfl rfl ?_
              refine E.GH.pass (i := 24) rfl (by kernel_rfl) (by kernel_rfl) (by kernel_rfl) (by intro c a d v w h; cases d <;> exact h) rfl rfl rfl ?_
              refine E.GH.pass (i := 25) rfl (by kernel_rfl) (by kernel_rfl) (by kernel_rfl) (by intro c a d v w h; cases d <;> exact h) rfl rfl rfl ?_
              refine E.GH.pass (i := 26) rfl (by kernel_rfl) (by kernel_rfl) (by kernel_rfl) (by intro c a d v w h; cases d <;> exact h) rfl rfl rfl ?_
              refine E.GH.pass (i := 27) rfl (by kernel_rfl) (by kernel_rfl) (by kernel_rfl) (by intro c a d v w h; cases d <;> exact h) rfl rfl rfl ?_
              refine E.GH.pass (i := 28) rfl (by kernel_rfl) (by kernel_rfl) (by kernel_rfl) (by intro c a d v w h; cases d <;> exact h) rfl rfl rfl ?_
              refine E.GH.pass (i := 29) rfl (by kernel_rfl) (by kernel_rfl) (by kernel_rfl) (by intro c a d v w h; cases d <;> exact h) rfl rfl rfl ?_
              refine E.GH.pass (i := 30) rfl (by kernel_rfl) (by kernel_rfl) (by kernel_rfl) (by intro c a d v w h; cases d <;> exact h) rfl rfl rfl ?_
              refine E.GH.pass (i := 31) rfl (by kernel_rfl) (by kernel_rfl) (by kernel_rfl) (by intro c a d v w h; cases d <;> exact h) rfl rfl rfl ?_
              refine E.GH.take (i := 32) rfl (by kernel_rfl) (by kernel_rfl) (by kernel_rfl) (by intro c a d v w h; cases d <;> exact h) rfl rfl rfl (fun w' hS => (E.Runs.pick_f rfl rfl rfl)) ?_
              refine E.GH.take (i := 33) rfl (by kernel_rfl) (by kernel_rfl) (by kernel_rfl) (by intro c a d v w h; cases d <;> exact h) rfl rfl rfl (fun w' hS => (E.Runs.pick_f rfl rfl rfl)) ?_
              refine E.GH.done (by kernel_rfl) ?_
              refine E.QG.code ?_
              refine E.CG.cond_f rfl ?_
              refine E.CG.skip ?_
              refine E.QG.code ?_
              refine E.CG.seq ?_
              have hlast : l.take i ≠ [] → (rd_T36 (l.take i) (((l.take i).length : Int) - 1)).f1 ≤ s.f1 := by
                intro hne
                first
                  | (rw [take_last hi0 (by omega) hz]; omega)
                  | (exact absurd (show l.take i = [] by rw [show i = 0 by omega]; rfl) hne)
              refine E.CG.list ?_
              refine E.GL.run rfl rfl rfl (E.Runs.assign rfl rfl) ?_
              refine E.GL.done ?_
              refine E.QG.code ?_
              refine E.CG.block ?_
              have s11_b2 := b2
              have s11_L := L
              have s11_lq := lq
              refine E.CG.loop (fun (k : Nat) => [(1, .slice (some ad) l.length c1), (2, .pointer (some ⟨g2, 0, none⟩)), (5, .int .i64 i), (6, .int .i64 k)]) (fun k w' => k ≤ i ∧ Below w32.heap.size w32 w' ∧ ∀ (j : Nat) (o : S36), j < k → l[j]? = some o → ¬ (o.f0 = s.f0 ∧ o.f1 = s.f1)) (fun k => i - k) 0 (E.subc rfl (E.subc rfl (E.subc rfl (E.subc rfl (E.subn))))) ⟨Nat.zero_le _, Below.refl _ _, fun j o hj => absurd hj (Nat.not_lt_zero _)⟩ ?_
              rintro k w11 ⟨hk, lk, hq⟩
              replace b2 := blk_below b2 lk
              replace L := below_step L lk
              replace lq := below_step lq lk
              refine E.CG.seq ?_
              refine E.CG.seq ?_
              refine E.CG.list ?_
              refine E.GL.run rfl rfl rfl (E.Runs.move rfl rfl) ?_
              refine E.GL.run rfl rfl rfl (E.Runs.move rfl rfl) ?_
              refine E.GL.cmp rfl rfl rfl (fun _ h => (E.Runs.lss rfl rfl rfl h)) (fun h55 => ?_) (fun h55 => ?_)
              · obtain ⟨o, ho⟩ : ∃ s, l[k]? = some s := ⟨_, List.getElem?_eq_getElem (by omega)⟩
                obtain ⟨ad3, eA3, S3⟩ := slot_at hr ho
                cases eA3
                have hkl : (k : Int) < (l.length : Int) := by omega
                refine E.GL.done ?_
                refine E.QG.code ?_
                refine E.CG.cond_t rfl ?_
                refine E.CG.skip ?_
                refine E.QG.code ?_
                refine E.CG.seq ?_
                refine E.CG.block ?_
                refine E.CG.seq ?_
                refine E.CG.quietF (by kernel_rfl) rfl (by kernel_rfl) (by kernel_rfl) ?_
                refine E.GQ.run rfl rfl rfl (E.Runs.move rfl rfl) ?_
                refine E.GQ.run rfl rfl rfl (E.Runs.move rfl rfl) ?_
                refine E.GQ.run rfl rfl rfl (E.Runs.indexAddrA rfl rfl rfl hu26 (by assumption) (by assumption) (by assumption) (by first | rfl | assumption) rfl) ?_
                refine E.GQ.run rfl rfl rfl (E.Runs.fieldAddr rfl rfl hu36 rfl (by assumption) rfl) ?_
                refine E.GQ.run rfl rfl rfl (E.Runs.load rfl rfl hu3 (by first | assumption | exact E.blkc (by assumption) rfl | exact pw_cell_below L (by assumption) | exact pw_cell_below lq (by assumption) | exact pw_cell_below lk (by assumption) | exact pw_cell_below L S.c0 | exact pw_cell_below L S.c1 | exact pw_cell_below L S.c2 | exact pw_cell_below L S.c3 | exact pw_cell_below L S.c4 | exact pw_cell_below L S.c5 | exact pw_cell_below L S3.c0 | exact pw_cell_below L S3.c1 | exact pw_cell_below L S3.c2 | exact pw_cell_below L S3.c3 | exact pw_cell_below L S3.c4 | exact pw_cell_below L S3.c5)) ?_
                refine E.GQ.run rfl rfl rfl (E.Runs.move rfl rfl) ?_
                refine E.GQ.run rfl rfl rfl (E.Runs.move rfl rfl) ?_
                refine E.GQ.run rfl rfl rfl (E.Runs.indexAddrA rfl rfl rfl hu26 (by assumption) (by assumption) (by assumption) (by first | rfl | assumption) rfl) ?_
                refine E.GQ.run rfl rfl rfl (E.Runs.fieldAddr rfl rfl hu36 rfl (by assumption) rfl) ?_
                refine E.GQ.run rfl rfl rfl (E.Runs.load rfl rfl hu3 (by first | assumption | exact E.blkc (by assumption) rfl | exact pw_cell_below L (by assumption) | exact pw_cell_below lq (by assumption) | exact pw_cell_below lk (by assumption) | exact pw_cell_below L S.c0 | exact pw_cell_below L S.c1 | exact pw_cell_below L S.c2 | exact pw_cell_below L S.c3 | exact pw_cell_below L S.c4 | exact pw_cell_below L S.c5 | exact pw_cell_below L S3.c0 | exact pw_cell_below L S3.c1 | exact pw_cell_below L S3.c2 | exact pw_cell_below L S3.c3 | exact pw_cell_below L S3.c4 | exact pw_cell_below L S3.c5)) ?_
                refine E.GQ.cmp rfl rfl rfl (fun _ h => (E.Runs.eql rfl rfl rfl h)) (fun h68 => ?_) (fun h68 => ?_)
                · refine E.GQ.run rfl rfl rfl (E.Runs.move rfl rfl) ?_
                  refine E.GQ.run rfl rfl rfl (E.Runs.move rfl rfl) ?_
                  refine E.GQ.run rfl rfl rfl (E.Runs.move rfl rfl) ?_
                  refine E.GQ.run rfl rfl rfl (E.Runs.indexAddrA rfl rfl rfl hu26 (by assumption) (by assumption) (by assumption) (by first | rfl | assumption) rfl) ?_
                  refine E.GQ.run rfl rfl rfl (E.Runs.fieldAddr rfl rfl hu36 rfl (by assumption) rfl) ?_
                  refine E.GQ.run rfl rfl rfl (E.Runs.load rfl rfl hu3 (by first | assumption | exact E.blkc (by assumption) rfl | exact pw_cell_below L (by assumption) | exact pw_cell_below lq (by assumption) | exact pw_cell_below lk (by assumption) | exact pw_cell_below L S.c0 | exact pw_cell_below L S.c1 | exact pw_cell_below L S.c2 | exact pw_cell_below L S.c3 | exact pw_cell_below L S.c4 | exact pw_cell_below L S.c5 | exact pw_cell_below L S3.c0 | exact pw_cell_below L S3.c1 | exact pw_cell_below L S3.c2 | exact pw_cell_below L S3.c3 | exact pw_cell_below L S3.c4 | exact pw_cell_below L S3.c5)) ?_
                  refine E.GQ.run rfl rfl rfl (E.Runs.move rfl rfl) ?_
                  refine E.GQ.run rfl rfl rfl (E.Runs.move rfl rfl) ?_
                  refine E.GQ.run rfl rfl rfl (E.Runs.indexAddrA rfl rfl rfl hu26 (by assumption) (by assumption) (by assumption) (by first | rfl | assumption) rfl) ?_
                  refine E.GQ.run rfl rfl rfl (E.Runs.fieldAddr rfl rfl hu36 rfl (by assumption) rfl) ?_
                  refine E.GQ.run rfl rfl rfl (E.Runs.load rfl rfl hu3 (by first | assumption | exact E.blkc (by assumption) rfl | exact pw_cell_below L (by assumption) | exact pw_cell_below lq (by assumption) | exact pw_cell_below lk (by assumption) | exact pw_cell_below L S.c0 | exact pw_cell_below L S.c1 | exact pw_cell_below L S.c2 | exact pw_cell_below L S.c3 | exact pw_cell_below L S.c4 | exact pw_cell_below L S.c5 | exact pw_cell_below L S3.c0 | exact pw_cell_below L S3.c1 | exact pw_cell_below L S3.c2 | exact pw_cell_below L S3.c3 | exact pw_cell_below L S3.c4 | exact pw_cell_below L S3.c5)) ?_
                  refine E.GQ.cmp rfl rfl rfl (fun _ h => (E.Runs.eql rfl rfl rfl h)) (fun h80 => ?_) (fun h80 => ?_)
                  · refine E.GQ.run rfl rfl rfl (E.Runs.pick_t rfl rfl rfl) ?_
                    refine E.GQ.doneB fun v13 lD => ?_
                    replace b2 := blk_below b2 lD
                    replace L := below_step L lD
                    replace lq := below_step lq lD
                    replace lk := below_step lk lD
                    clear lD
                    refine E.QG.code ?_
                    refine E.CG.cond_t rfl ?_
                    refine E.CG.seq ?_
                    refine E.CG.list ?_
                    refine E.GL.run rfl rfl rfl (E.Runs.assign rfl rfl) ?_
                    refine E.GL.done ?_
                    refine E.QG.code ?_
                    refine E.CG.ret ?_
                    refine E.QG.block_ret ?_
                    refine E.QG.pass_ret ?_
                    refine E.QG.pass_ret ?_
                    refine E.QG.block_ret ?_
                    refine E.QG.block_ret ?_
                    refine E.QG.pass_ret ?_
                    refine E.QG.pass_ret ?_
                    refine E.QG.block_ret ?_
                    refine E.QG.pass_ret ?_
                    exact E.QG.result rfl rfl ⟨congrArg (fun x => Ending.returned (Value.int .i64 x)) (by unfold checkE; rw [if_pos h8, if_pos (by omega), if_neg (fun q => ((okFrom_at hs).mp (hp.mp q)).1.2.2.2 o (List.mem_of_getElem? (i := k) (by rw [List.getElem?_take, if_pos (by omega)]; exact ho)) ⟨h68, h80⟩)]), L⟩
                  · refine E.GQ.run rfl rfl rfl (E.Runs.pick_t rfl rfl rfl) ?_
                    refine E.GQ.doneB fun v13 lD => ?_
                    replace b2 := blk_below b2 lD
                    replace L := below_step L lD
                    replace lq := below_step lq lD
                    replace lk := below_step lk lD
                    clear lD
                    refine E.QG.code ?_
                    refine E.CG.cond_f rfl ?_
                    refine E.CG.skip ?_
                    refine E.QG.block_normal ?_
                    refine E.QG.code ?_
                    refine E.CG.list ?_
                    refine E.GL.run rfl rfl rfl (E.Runs.move rfl rfl) ?_
                    refine E.GL.run rfl rfl rfl (E.Runs.add rfl rfl rfl (IntWalk.i64_in _ (by omega))) ?_
                    refine E.GL.run rfl rfl rfl (E.Runs.assign rfl rfl) ?_
                    refine E.GL.done ?_
                    exact E.QG.round (k + 1) (E.subc rfl (E.subc rfl (E.subc rfl (E.subc rfl E.subn)))) ⟨by omega, lk, fun j o' hj h1 => by
                        rcases Nat.lt_succ_iff_lt_or_eq.mp hj with hj | rfl
                        · exact hq j o' hj h1
                        · rw [ho] at h1
                          cases h1
                          first | exact fun hh => h68 hh.1 | exact fun hh => h80 hh.2⟩ (by omega)
                · refine E.GQ.run rfl rfl rfl (E.Runs.move rfl rfl) ?_
                  refine E.GQ.skip rfl rfl rfl ?_
                  refine E.GQ.skip rfl rfl rfl ?_
                  refine E.GQ.skip rfl rfl rfl ?_
                  refine E.GQ.skip rfl rfl rfl ?_
                  refine E.GQ.skip rfl rfl rfl ?_
                  refine E.GQ.skip rfl rfl rfl ?_
                  refine E.GQ.skip rfl rfl rfl ?_
                  refine E.GQ.skip rfl rfl rfl ?_
                  refine E.GQ.skip rfl rfl rfl ?_
                  refine E.GQ.skip rfl rfl rfl ?_
                  refine E.GQ.skip rfl rfl rfl ?_
                  refine E.GQ.run rfl rfl rfl (E.Runs.pick_f rfl rfl rfl) ?_
                  refine E.GQ.doneB fun v13 lD => ?_
                  replace b2 := blk_below b2 lD
                  replace L := below_step L lD
                  replace lq := below_step lq lD
                  replace lk := below_step lk lD
                  clear lD
                  refine E.QG.code ?_
                  refine E.CG.cond_f rfl ?_
                  refine E.CG.skip ?_
                  refine E.QG.block_normal ?_
                  refine E.QG.code ?_
                  refine E.CG.list ?_
                  refine E.GL.run rfl rfl rfl (E.Runs.move rfl rfl) ?_
                  refine E.GL.run rfl rfl rfl (E.Runs.add rfl rfl rfl (IntWalk.i64_in _ (by omega))) ?_
                  refine E.GL.run rfl rfl rfl (E.Runs.assign rfl rfl) ?_
                  refine E.GL.done ?_
                  exact E.QG.round (k + 1) (E.subc rfl (E.subc rfl (E.subc rfl (E.subc rfl E.subn)))) ⟨by omega, lk, fun j o' hj h1 => by
                      rcases Nat.lt_succ_iff_lt_or_eq.mp hj with hj | rfl
                      · exact hq j o' hj h1
                      · rw [ho] at h1
                        cases h1
                        first | exact fun hh => h68 hh.1 | exact fun hh => h80 hh.2⟩ (by omega)
              · refine E.GL.done ?_
                refine E.QG.code ?_
                refine E.CG.cond_f rfl ?_
                refine E.CG.exit ?_
                refine E.QG.pass_exit ?_
                refine E.QG.pass_exit ?_
                refine E.QG.block_here ?_
                refine E.QG.block_normal ?_
                refine E.QG.code ?_
                refine E.CG.list ?_
                refine E.GL.run rfl rfl rfl (E.Runs.move rfl rfl) ?_
                refine E.GL.run rfl rfl rfl (E.Runs.add rfl rfl rfl (IntWalk.i64_in _ (by omega))) ?_
                refine E.GL.run rfl rfl rfl (E.Runs.assign rfl rfl) ?_
                refine E.GL.done ?_
                exact E.QG.round (i + 1) (E.subc rfl (E.subc rfl (E.subc rfl E.subn))) ⟨by omega, lq, hp.trans ((okFrom_at hs).trans ⟨fun q => q.2, fun q => ⟨⟨h24, h32, hlast, fun o ho hh => by
                    obtain ⟨j, hj⟩ := List.mem_iff_getElem?.mp ho
                    have hji : j < i := by have := (List.getElem?_eq_some_iff.1 hj).1; rw [List.length_take] at this; omega
                    exact hq j o (by omega) (by rw [List.getElem?_take, if_pos hji] at hj; exact hj) hh⟩, q⟩⟩)⟩ (by omega)
          · refine E.GH.one (i := 13) (by kernel_rfl) rfl ?_
            refine E.GO.st rfl rfl rfl (E.ST.call rfl ent44 (E.evc rfl (E.evc rfl (E.evc rfl E.evn))) ((within_row s.f1 0 2000 false (iff_of_false Bool.false_ne_true h32) _).mono ?_))
            rintro e w32 ⟨rfl, l32⟩
            refine ⟨_, rfl, hh.trans (E.gbB l32), ?_⟩
            replace hh := hh.trans (E.gbB l32)
            replace b2 := blk_below b2 l32
            replace L := below_step L l32
            replace lq := below_step lq l32
            refine E.GH.take (i := 14) rfl (by kernel_rfl) (by kernel_rfl) (by kernel_rfl) (by intro c a d v w h; cases d <;> exact h) rfl rfl rfl (fun w' hS => (E.Runs.not rfl rfl)) ?_
            refine E.GH.take (i := 15) rfl (by kernel_rfl) (by kernel_rfl) (by kernel_rfl) (by intro c a d v w h; cases d <;> exact h) rfl rfl rfl (fun w' hS => (E.Runs.pick_f rfl rfl rfl)) ?_
            refine E.GH.take (i := 16) rfl (by kernel_rfl) (by kernel_rfl) (by kernel_rfl) (by intro c a d v w h; cases d <;> exact h) rfl rfl rfl (fun w' hS => (E.Runs.move rfl rfl)) ?_
            refine E.GH.pass (i := 17) rfl (by kernel_rfl) (by kernel_rfl) (by kernel_rfl) (by intro c a d v w h; cases d <;> exact h) rfl rfl rfl ?_
            refine E.GH.pass (i := 18) rfl (by kernel_rfl) (by kernel_rfl) (by kernel_rfl) (by intro c a d v w h; cases d <;> exact h) rfl rfl rfl ?_
            refine E.GH.pass (i := 19) rfl (by kernel_rfl) (by kernel_rfl) (by kernel_rfl) (by intro c a d v w h; cases d <;> exact h) rfl rfl rfl ?_
            refine E.GH.pass (i := 20) rfl (by kernel_rfl) (by kernel_rfl) (by kernel_rfl) (by intro c a d v w h; cases d <;> exact h) rfl rfl rfl ?_
            refine E.GH.pass (i := 21) rfl (by kernel_rfl) (by kernel_rfl) (by kernel_rfl) (by intro c a d v w h; cases d <;> exact h) rfl rfl rfl ?_
            refine E.GH.pass (i := 22) rfl (by kernel_rfl) (by kernel_rfl) (by kernel_rfl) (by intro c a d v w h; cases d <;> exact h) rfl rfl rfl ?_
            refine E.GH.pass (i := 23) rfl (by kernel_rfl) (by kernel_rfl) (by kernel_rfl) (by intro c a d v w h; cases d <;> exact h) rfl rfl rfl ?_
            refine E.GH.pass (i := 24) rfl (by kernel_rfl) (by kernel_rfl) (by kernel_rfl) (by intro c a d v w h; cases d <;> exact h) rfl rfl rfl ?_
            refine E.GH.pass (i := 25) rfl (by kernel_rfl) (by kernel_rfl) (by kernel_rfl) (by intro c a d v w h; cases d <;> exact h) rfl rfl rfl ?_
            refine E.GH.pass (i := 26) rfl (by kernel_rfl) (by kernel_rfl) (by kernel_rfl) (by intro c a d v w h; cases d <;> exact h) rfl rfl rfl ?_
            refine E.GH.pass (i := 27) rfl (by kernel_rfl) (by kernel_rfl) (by kernel_rfl) (by intro c a d v w h; cases d <;> exact h) rfl rfl rfl ?_
            refine E.GH.pass (i := 28) rfl (by kernel_rfl) (by kernel_rfl) (by kernel_rfl) (by intro c a d v w h; cases d <;> exact h) rfl rfl rfl ?_
            refine E.GH.pass (i := 29) rfl (by kernel_rfl) (by kernel_rfl) (by kernel_rfl) (by intro c a d v w h; cases d <;> exact h) rfl rfl rfl ?_
            refine E.GH.pass (i := 30) rfl (by kernel_rfl) (by kernel_rfl) (by kernel_rfl) (by intro c a d v w h; cases d <;> exact h) rfl rfl rfl ?_
            refine E.GH.pass (i := 31) rfl (by kernel_rfl) (by kernel_rfl) (by kernel_rfl) (by intro c a d v w h; cases d <;> exact h) rfl rfl rfl ?_
            refine E.GH.pass (i := 32) rfl (by kernel_rfl) (by kernel_rfl) (by kernel_rfl) (by intro c a d v w h; cases d <;> exact h) rfl rfl rfl ?_
            refine E.GH.take (i := 33) rfl (by kernel_rfl) (by kernel_rfl) (by kernel_rfl) (by intro c a d v w h; cases d <;> exact h) rfl rfl rfl (fun w' hS => (E.Runs.pick_t rfl rfl rfl)) ?_
            refine E.GH.done (by kernel_rfl) ?_
            refine E.QG.code ?_
            refine E.CG.cond_t rfl ?_
            refine E.CG.seq ?_
            refine E.CG.list ?_
            refine E.GL.run rfl rfl rfl (E.Runs.assign rfl rfl) ?_
            refine E.GL.done ?_
            refine E.QG.code ?_
            refine E.CG.ret ?_
            refine E.QG.pass_ret ?_
            refine E.QG.block_ret ?_
            refine E.QG.pass_ret ?_
            refine E.QG.pass_ret ?_
            refine E.QG.block_ret ?_
            refine E.QG.pass_ret ?_
            exact E.QG.result rfl rfl ⟨congrArg (fun x => Ending.returned (Value.int .i64 x)) (by unfold checkE; rw [if_pos h8, if_pos (by omega), if_neg (fun q => h32 ((okFrom_at hs).mp (hp.mp q)).1.2.1)]), L⟩
        · refine E.GH.one (i := 5) (by kernel_rfl) rfl ?_
          refine E.GO.st rfl rfl rfl (E.ST.call rfl ent16 (E.evc rfl (E.evc rfl E.evn)) ((slot_r H s false (iff_of_false Bool.false_ne_true h24) h8 _).mono ?_))
          rintro e w24 ⟨rfl, l24⟩
          refine ⟨_, rfl, hh.trans (E.gbB l24), ?_⟩
          replace hh := hh.trans (E.gbB l24)
          replace b2 := blk_below b2 l24
          replace L := below_step L l24
          replace lq := below_step lq l24
          refine E.GH.take (i := 6) rfl (by kernel_rfl) (by kernel_rfl) (by kernel_rfl) (by intro c a d v w h; cases d <;> exact h) rfl rfl rfl (fun w' hS => (E.Runs.not rfl rfl)) ?_
          refine E.GH.take (i := 7) rfl (by kernel_rfl) (by kernel_rfl) (by kernel_rfl) (by intro c a d v w h; cases d <;> exact h) rfl rfl rfl (fun w' hS => (E.Runs.move rfl rfl)) ?_
          refine E.GH.pass (i := 8) rfl (by kernel_rfl) (by kernel_rfl) (by kernel_rfl) (by intro c a d v w h; cases d <;> exact h) rfl rfl rfl ?_
          refine E.GH.pass (i := 9) rfl (by kernel_rfl) (by kernel_rfl) (by kernel_rfl) (by intro c a d v w h; cases d <;> exact h) rfl rfl rfl ?_
          refine E.GH.pass (i := 10) rfl (by kernel_rfl) (by kernel_rfl) (by kernel_rfl) (by intro c a d v w h; cases d <;> exact h) rfl rfl rfl ?_
          refine E.GH.pass (i := 11) rfl (by kernel_rfl) (by kernel_rfl) (by kernel_rfl) (by intro c a d v w h; cases d <;> exact h) rfl rfl rfl ?_
          refine E.GH.pass (i := 12) rfl (by kernel_rfl) (by kernel_rfl) (by kernel_rfl) (by intro c a d v w h; cases d <;> exact h) rfl rfl rfl ?_
          refine E.GH.pass (i := 13) rfl (by kernel_rfl) (by kernel_rfl) (by kernel_rfl) (by intro c a d v w h; cases d <;> exact h) rfl rfl rfl ?_
          refine E.GH.pass (i := 14) rfl (by kernel_rfl) (by kernel_rfl) (by kernel_rfl) (by intro c a d v w h; cases d <;> exact h) rfl rfl rfl ?_
          refine E.GH.take (i := 15) rfl (by kernel_rfl) (by kernel_rfl) (by kernel_rfl) (by intro c a d v w h; cases d <;> exact h) rfl rfl rfl (fun w' hS => (E.Runs.pick_t rfl rfl rfl)) ?_
          refine E.GH.take (i := 16) rfl (by kernel_rfl) (by kernel_rfl) (by kernel_rfl) (by intro c a d v w h; cases d <;> exact h) rfl rfl rfl (fun w' hS => (E.Runs.move rfl rfl)) ?_
          refine E.GH.pass (i := 17) rfl (by kernel_rfl) (by kernel_rfl) (by kernel_rfl) (by intro c a d v w h; cases d <;> exact h) rfl rfl rfl ?_
          refine E.GH.pass (i := 18) rfl (by kernel_rfl) (by kernel_rfl) (by kernel_rfl) (by intro c a d v w h; cases d <;> exact h) rfl rfl rfl ?_
          refine E.GH.pass (i := 19) rfl (by kernel_rfl) (by kernel_rfl) (by kernel_rfl) (by intro c a d v w h; cases d <;> exact h) rfl rfl rfl ?_
          refine E.GH.pass (i := 20) rfl (by kernel_rfl) (by kernel_rfl) (by kernel_rfl) (by intro c a d v w h; cases d <;> exact h) rfl rfl rfl ?_
          refine E.GH.pass (i := 21) rfl (by kernel_rfl) (by kernel_rfl) (by kernel_rfl) (by intro c a d v w h; cases d <;> exact h) rfl rfl rfl ?_
          refine E.GH.pass (i := 22) rfl (by kernel_rfl) (by kernel_rfl) (by kernel_rfl) (by intro c a d v w h; cases d <;> exact h) rfl rfl rfl ?_
          refine E.GH.pass (i := 23) rfl (by kernel_rfl) (by kernel_rfl) (by kernel_rfl) (by intro c a d v w h; cases d <;> exact h) rfl rfl rfl ?_
          refine E.GH.pass (i := 24) rfl (by kernel_rfl) (by kernel_rfl) (by kernel_rfl) (by intro c a d v w h; cases d <;> exact h) rfl rfl rfl ?_
          refine E.GH.pass (i := 25) rfl (by kernel_rfl) (by kernel_rfl) (by kernel_rfl) (by intro c a d v w h; cases d <;> exact h) rfl rfl rfl ?_
          refine E.GH.pass (i := 26) rfl (by kernel_rfl) (by kernel_rfl) (by kernel_rfl) (by intro c a d v w h; cases d <;> exact h) rfl rfl rfl ?_
          refine E.GH.pass (i := 27) rfl (by kernel_rfl) (by kernel_rfl) (by kernel_rfl) (by intro c a d v w h; cases d <;> exact h) rfl rfl rfl ?_
          refine E.GH.pass (i := 28) rfl (by kernel_rfl) (by kernel_rfl) (by kernel_rfl) (by intro c a d v w h; cases d <;> exact h) rfl rfl rfl ?_
          refine E.GH.pass (i := 29) rfl (by kernel_rfl) (by kernel_rfl) (by kernel_rfl) (by intro c a d v w h; cases d <;> exact h) rfl rfl rfl ?_
          refine E.GH.pass (i := 30) rfl (by kernel_rfl) (by kernel_rfl) (by kernel_rfl) (by intro c a d v w h; cases d <;> exact h) rfl rfl rfl ?_
          refine E.GH.pass (i := 31) rfl (by kernel_rfl) (by kernel_rfl) (by kernel_rfl) (by intro c a d v w h; cases d <;> exact h) rfl rfl rfl ?_
          refine E.GH.pass (i := 32) rfl (by kernel_rfl) (by kernel_rfl) (by kernel_rfl) (by intro c a d v w h; cases d <;> exact h) rfl rfl rfl ?_
          refine E.GH.take (i := 33) rfl (by kernel_rfl) (by kernel_rfl) (by kernel_rfl) (by intro c a d v w h; cases d <;> exact h) rfl rfl rfl (fun w' hS => (E.Runs.pick_t rfl rfl rfl)) ?_
          refine E.GH.done (by kernel_rfl) ?_
          refine E.QG.code ?_
          refine E.CG.cond_t rfl ?_
          refine E.CG.seq ?_
          refine E.CG.list ?_
          refine E.GL.run rfl rfl rfl (E.Runs.assign rfl rfl) ?_
          refine E.GL.done ?_
          refine E.QG.code ?_
          refine E.CG.ret ?_
          refine E.QG.pass_ret ?_
          refine E.QG.block_ret ?_
          refine E.QG.pass_ret ?_
          refine E.QG.pass_ret ?_
          refine E.QG.block_ret ?_
          refine E.QG.pass_ret ?_
          exact E.QG.result rfl rfl ⟨congrArg (fun x => Ending.returned (Value.int .i64 x)) (by unfold checkE; rw [if_pos h8, if_pos (by omega), if_neg (fun q => h24 ((okFrom_at hs).mp (hp.mp q)).1.1)]), L⟩
      · refine E.GL.done ?_
        refine E.QG.code ?_
        refine E.CG.cond_f rfl ?_
        refine E.CG.exit ?_
        refine E.QG.pass_exit ?_
        refine E.QG.pass_exit ?_
        refine E.QG.block_here ?_
        refine E.QG.code ?_
        refine E.CG.seq ?_
        refine E.CG.list ?_
        refine E.GL.run rfl rfl rfl (E.Runs.assign rfl rfl) ?_
        refine E.GL.done ?_
        refine E.QG.code ?_
        refine E.CG.ret ?_
        exact E.QG.result rfl rfl ⟨congrArg (fun x => Ending.returned (Value.int .i64 x)) (by unfold checkE; rw [if_pos h8, if_pos (by omega), if_pos (hp.mpr (okFrom_end H l i (by omega)))]), L⟩
  · refine E.GL.st rfl rfl rfl (E.ST.call rfl ent49 (E.evc rfl E.evn) ((house_r H false (iff_of_false Bool.false_ne_true h8) _).mono ?_))
    rintro e w8 ⟨rfl, l8⟩
    refine ⟨_, rfl, ?_⟩
    replace b2 := blk_below b2 l8
    replace L := below_step L l8
    refine E.GL.run rfl rfl rfl (E.Runs.not rfl rfl) ?_
    refine E.GL.done ?_
    refine E.QG.code ?_
    refine E.CG.cond_t rfl ?_
    refine E.CG.seq ?_
    refine E.CG.list ?_
    refine E.GL.run rfl rfl rfl (E.Runs.assign rfl rfl) ?_
    refine E.GL.done ?_
    refine E.QG.code ?_
    refine E.CG.ret ?_
    refine E.QG.pass_ret ?_
    exact E.QG.result rfl rfl ⟨congrArg (fun x => Ending.returned (Value.int .i64 x)) (by unfold checkE; rw [if_neg h8]), L⟩

theorem far_row (l : List S36) (A1 : Option Addr) (c1 : Nat) (b : Bool) (h : b = true ↔ 40 < l.length) (w : World) :
    Calls Try.prog 20 #[.slice A1 l.length c1] w fun e w' => e = .returned (.bool b) ∧ Below w.heap.size w w' := by
  have hu26 := Try.underlying26
  refine E.enter (N := 6) Try.func20 rfl Try.ntmps20 (args := [.slice A1 l.length c1]) (by simp) ?_
  have L := Below.refl w.heap.size w
  refine E.CG.seq ?_
  refine E.CG.list ?_
  refine E.GL.run rfl rfl rfl (E.Runs.assign rfl rfl) ?_
  refine E.GL.done ?_
  refine E.QG.code ?_
  refine E.CG.seq ?_
  refine E.CG.list ?_
  refine E.GL.run rfl rfl rfl (E.Runs.move rfl rfl) ?_
  refine E.GL.run rfl rfl rfl (E.Runs.len rfl rfl hu26) ?_
  refine E.GL.cmp rfl rfl rfl (fun _ h => (E.Runs.gtr rfl rfl rfl h)) (fun h5 => ?_) (fun h5 => ?_)
  · refine E.GL.run rfl rfl rfl (E.Runs.assign rfl rfl) ?_
    refine E.GL.done ?_
    refine E.QG.code ?_
    refine E.CG.ret ?_
    exact E.QG.result rfl rfl ⟨congrArg (fun x => Ending.returned (Value.bool x)) (by first | exact (h.mpr (by omega)).symm | exact (Bool.eq_false_iff.mpr fun e => by have := h.mp e; omega).symm), L⟩
  · refine E.GL.run rfl rfl rfl (E.Runs.assign rfl rfl) ?_
    refine E.GL.done ?_
    refine E.QG.code ?_
    refine E.CG.ret ?_
    exact E.QG.result rfl rfl ⟨congrArg (fun x => Ending.returned (Value.bool x)) (by first | exact (h.mpr (by omega)).symm | exact (Bool.eq_false_iff.mpr fun e => by have := h.mp e; omega).symm), L⟩

set_option maxRecDepth 100000 in
set_option maxHeartbeats 4000000 in

theorem valid_row (H : Hs) (l : List S36) (A1 : Option Addr) (c1 : Nat) (w : World) (b : Bool) (h : b = true ↔ Valid H l) (hr : Kd.C k36 w A1 l.length l) (hc : l.length ≤ c1) :
    Calls Try.prog 13 #[hv H, .slice A1 l.length c1] w fun e w' => e = .returned (.bool b) ∧ Below w.heap.size w w' := by
  have hu25 := Try.underlying25
  have hu26 := Try.underlying26
  refine E.enter (N := 14) Try.func13 rfl Try.ntmps13 (args := [hv H, .slice A1 l.length c1]) (by simp) ?_
  have L := Below.refl w.heap.size w
  refine E.CG.seq ?_
  refine E.CG.list ?_
  refine E.GL.st rfl rfl rfl (E.ST.box rfl rfl fun g2 w2 e2 b2 l2 => ?_)
  have h2_L : w.heap.size ≤ g2 := by rw [e2]; exact L.size
  replace L := below_step L l2
  refine E.GL.run rfl rfl rfl (E.Runs.assign rfl rfl) ?_
  refine E.GL.done ?_
  refine E.QG.code ?_
  refine E.CG.seq ?_
  refine E.CG.list ?_
  refine E.GL.run rfl rfl rfl (E.Runs.move rfl rfl) ?_
  by_cases h6 : 40 < l.length
  · refine E.GL.st rfl rfl rfl (E.ST.call rfl ent20 (E.evc rfl E.evn) ((far_row l A1 c1 true (iff_of_true rfl h6) _).mono ?_))
    rintro e w6 ⟨rfl, l6⟩
    refine ⟨_, rfl, ?_⟩
    replace b2 := blk_below b2 l6
    replace L := below_step L l6
    refine E.GL.run rfl rfl rfl (E.Runs.not rfl rfl) ?_
    refine E.GL.run rfl rfl rfl (E.Runs.move rfl rfl) ?_
    refine E.GL.skip rfl rfl rfl ?_
    refine E.GL.skip rfl rfl rfl ?_
    refine E.GL.skip rfl rfl rfl ?_
    refine E.GL.skip rfl rfl rfl ?_
    refine E.GL.run rfl rfl rfl (E.Runs.pick_f rfl rfl rfl) ?_
    refine E.GL.run rfl rfl rfl (E.Runs.assign rfl rfl) ?_
    refine E.GL.done ?_
    refine E.QG.code ?_
    refine E.CG.ret ?_
    exact E.QG.result rfl rfl ⟨congrArg (fun x => Ending.returned (Value.bool x)) (Bool.eq_false_iff.mpr fun e => by have := (h.mp e).2.1; omega).symm, L⟩
  · refine E.GL.st rfl rfl rfl (E.ST.call rfl ent20 (E.evc rfl E.evn) ((far_row l A1 c1 false (iff_of_false Bool.false_ne_true h6) _).mono ?_))
    rintro e w6 ⟨rfl, l6⟩
    refine ⟨_, rfl, ?_⟩
    replace b2 := blk_below b2 l6
    replace L := below_step L l6
    refine E.GL.run rfl rfl rfl (E.Runs.not rfl rfl) ?_
    refine E.GL.run rfl rfl rfl (E.Runs.move rfl rfl) ?_
    refine E.GL.run rfl rfl rfl (E.Runs.loads (cs := [.int .i64 H.teams, .int .i64 H.walk, .int .i64 H.early, .int .i64 H.foyer, .int .i64 H.dl, .int .i64 H.dh, .int .i64 H.cl, .int .i64 H.ch]) rfl rfl hu25 rfl info25s (blk_cells b2)) ?_
    refine E.GL.run rfl rfl rfl (E.Runs.move rfl rfl) ?_
    refine E.GL.st rfl rfl rfl (E.ST.call rfl ent19 (E.evc rfl (E.evc rfl E.evn)) ((check_ref H l A1 c1 _ (by omega) (Kd.C_below hr L) hc).mono ?_))
    rintro e w11 ⟨rfl, l11⟩
    refine ⟨_, rfl, ?_⟩
    replace b2 := blk_below b2 l11
    replace L := below_step L l11
    refine E.GL.cmp rfl rfl rfl (fun _ h => (E.Runs.eql rfl rfl rfl h)) (fun h12 => ?_) (fun h12 => ?_)
    · refine E.GL.run rfl rfl rfl (E.Runs.pick_t rfl rfl rfl) ?_
      refine E.GL.run rfl rfl rfl (E.Runs.assign rfl rfl) ?_
      refine E.GL.done ?_
      refine E.QG.code ?_
      refine E.CG.ret ?_
      exact E.QG.result rfl rfl ⟨congrArg (fun x => Ending.returned (Value.bool x)) (h.mpr ((checkE_valid H l).mp h12)).symm, L⟩
    · refine E.GL.run rfl rfl rfl (E.Runs.pick_t rfl rfl rfl) ?_
      refine E.GL.run rfl rfl rfl (E.Runs.assign rfl rfl) ?_
      refine E.GL.done ?_
      refine E.QG.code ?_
      refine E.CG.ret ?_
      exact E.QG.result rfl rfl ⟨congrArg (fun x => Ending.returned (Value.bool x)) (Bool.eq_false_iff.mpr fun e => h12 ((checkE_valid H l).mpr (h.mp e))).symm, L⟩

theorem valid_yes (H : Hs) (l : List S36) (A1 : Option Addr) (c1 : Nat) (w : World) (h : Valid H l) (hr : Kd.C k36 w A1 l.length l) (hc : l.length ≤ c1) :
    Calls Try.prog 13 #[hv H, .slice A1 l.length c1] w fun e w' => e = .returned (.bool true) ∧ Below w.heap.size w w' := valid_row H l A1 c1 w true (iff_of_true rfl h) hr hc
theorem valid_no (H : Hs) (l : List S36) (A1 : Option Addr) (c1 : Nat) (w : World) (h : ¬ Valid H l) (hr : Kd.C k36 w A1 l.length l) (hc : l.length ≤ c1) :
    Calls Try.prog 13 #[hv H, .slice A1 l.length c1] w fun e w' => e = .returned (.bool false) ∧ Below w.heap.size w w' := valid_row H l A1 c1 w false (iff_of_false Bool.false_ne_true h) hr hc
theorem follows_yes (l : List S36) (s : S36) (A1 : Option Addr) (c1 : Nat) (w : World) (hn : l.length ≤ 1000000) (h : FollowsOk l s) (hr : Kd.C k36 w A1 l.length l) (hc : l.length ≤ c1) :
    Calls Try.prog 47 #[.slice A1 l.length c1, sv s] w fun e w' => e = .returned (.bool true) ∧ Below w.heap.size w w' := follows_o l s A1 c1 true (iff_of_true rfl h) w hn hr hc
theorem follows_no (l : List S36) (s : S36) (A1 : Option Addr) (c1 : Nat) (w : World) (hn : l.length ≤ 1000000) (h : ¬ FollowsOk l s) (hr : Kd.C k36 w A1 l.length l) (hc : l.length ≤ c1) :
    Calls Try.prog 47 #[.slice A1 l.length c1, sv s] w fun e w' => e = .returned (.bool false) ∧ Below w.heap.size w w' := follows_o l s A1 c1 false (iff_of_false Bool.false_ne_true h) w hn hr hc
theorem slot_yes (H : Hs) (s : S36) (w : World) (hh : HouseOk H) (h : SlotOk H s) :
    Calls Try.prog 46 #[hv H, sv s] w fun e w' => e = .returned (.bool true) ∧ Below w.heap.size w w' := slot_o H s true (iff_of_true rfl h) hh w
theorem slot_no (H : Hs) (s : S36) (w : World) (hh : HouseOk H) (h : ¬ SlotOk H s) :
    Calls Try.prog 46 #[hv H, sv s] w fun e w' => e = .returned (.bool false) ∧ Below w.heap.size w w' := slot_o H s false (iff_of_false Bool.false_ne_true h) hh w
theorem within_yes (n lo hi : Int) (w : World) (h : lo ≤ n ∧ n ≤ hi) : Calls Try.prog 52 #[.int .i64 n, .int .i64 lo, .int .i64 hi] w fun e w' => e = .returned (.bool true) ∧ Below w.heap.size w w' := within_o n lo hi true (iff_of_true rfl h) w
theorem within_no (n lo hi : Int) (w : World) (h : ¬ (lo ≤ n ∧ n ≤ hi)) : Calls Try.prog 52 #[.int .i64 n, .int .i64 lo, .int .i64 hi] w fun e w' => e = .returned (.bool false) ∧ Below w.heap.size w w' := within_o n lo hi false (iff_of_false Bool.false_ne_true h) w

end Go.Proofs.Ythdbkhdiaehblaa.T
