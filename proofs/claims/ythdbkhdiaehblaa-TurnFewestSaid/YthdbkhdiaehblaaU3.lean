/- The examples' house and slots: the walk. -/
import Derived.Test.YthdbkhdiaehblaaU2
namespace Go.Proofs.Ythdbkhdiaehblaa.T
open Go.RowKit Go.Proofs.YthdbkhdiaehblaaW.PrintWords Go.Proofs.YthdbkhdiaehblaaW.PrintMore
open Go.Proofs.Ythdbkhdiaehblaa.P
set_option linter.unusedVariables false
abbrev eH : Hs := ⟨1, 2, 15, 40, 10, 20, 10, 15⟩
abbrev eS : S36 := ⟨0, 0, ⟨1, 1⟩, 40, 0⟩
abbrev eL : List S36 := [⟨0, 100, ⟨90, 100⟩, 50, 0⟩, ⟨1, 110, ⟨60, 60⟩, 30, 0⟩, ⟨0, 230, ⟨90, 95⟩, 40, 0⟩]
set_option maxRecDepth 100000 in
theorem build23 (a b : Int) (W : World) : (Instr.build 23 #[(0, .int .i64 a), (1, .int .i64 b)]).run Try.prog W = .ok (.agg #[.int .i64 a, .int .i64 b]) W := by
  have hu3 := Try.underlying3
  have hu23 := Try.underlying23
  go_simp
set_option maxRecDepth 100000 in
theorem build25 (a b c d e f g i : Int) (W : World) : (Instr.build 25 #[(0, .int .i64 a), (1, .int .i64 b), (2, .int .i64 c), (3, .int .i64 d), (4, .agg #[.int .i64 e, .int .i64 f]), (5, .agg #[.int .i64 g, .int .i64 i])]).run Try.prog W = .ok (.agg #[.int .i64 a, .int .i64 b, .int .i64 c, .int .i64 d, .int .i64 e, .int .i64 f, .int .i64 g, .int .i64 i]) W := by
  have hu3 := Try.underlying3
  have hu23 := Try.underlying23
  have hu25 := Try.underlying25
  go_simp
set_option maxRecDepth 100000 in
theorem build36a (b c d e : Int) (W : World) : (Instr.build 36 #[(1, .int .i64 b), (2, .agg #[.int .i64 c, .int .i64 d]), (3, .int .i64 e)]).run Try.prog W = .ok (.agg #[.int .i64 0, .int .i64 b, .int .i64 c, .int .i64 d, .int .i64 e, .int .i64 0]) W := by
  have hu3 := Try.underlying3
  have hu23 := Try.underlying23
  have hu36 := Try.underlying36
  go_simp
set_option maxRecDepth 100000 in
theorem build36b (a b c d e : Int) (W : World) : (Instr.build 36 #[(0, .int .i64 a), (1, .int .i64 b), (2, .agg #[.int .i64 c, .int .i64 d]), (3, .int .i64 e)]).run Try.prog W = .ok (.agg #[.int .i64 a, .int .i64 b, .int .i64 c, .int .i64 d, .int .i64 e, .int .i64 0]) W := by
  have hu3 := Try.underlying3
  have hu23 := Try.underlying23
  have hu36 := Try.underlying36
  go_simp
def six (s : S36) : List Value := [.int .i64 s.f0, .int .i64 s.f1, .int .i64 s.f2.f0, .int .i64 s.f2.f1, .int .i64 s.f3, .int .i64 s.f4]
set_option maxRecDepth 100000 in
theorem lit36 (a b c : S36) (W : World) : (Instr.buildSlice 26 3 #[(0, sv a), (1, sv b), (2, sv c)]).run Try.prog W = .ok (.slice (some ⟨W.heap.size, 0, none⟩) 3 3) (W.alloc (.cells (six a ++ six b ++ six c).toArray 36 (0, 0))) := by
  have hu26 := Try.underlying26
  go_simp
  rfl
theorem C_three {w : World} {g : Nat} (a b c : S36) (hb : w.heap[g]? = some (.cells (six a ++ six b ++ six c).toArray 36 (0, 0))) : Kd.C k36 w (some ⟨g, 0, none⟩) 3 [a, b, c] := by
  refine ⟨rfl, by omega, fun _ => ⟨_, rfl, ?_⟩⟩
  intro j p hj
  have key : ∀ (i : Nat) (u : Value), (six p)[i]? = some u → w.cell? ((⟨g, 0, none⟩ : Addr).add (j * 6 + i)) = some u := by
    intro i u hu
    have hi : i < 6 := (List.getElem?_eq_some_iff.1 hu).1
    rw [Addr.add_mid, blk_cell hb]
    rcases j with _ | _ | _ | j
    · cases hj
      rcases i with _ | _ | _ | _ | _ | _ | i <;> first | exact hu | omega
    · cases hj
      rcases i with _ | _ | _ | _ | _ | _ | i <;> first | exact hu | omega
    · cases hj
      rcases i with _ | _ | _ | _ | _ | _ | i <;> first | exact hu | omega
    · simp at hj
  exact ⟨six p, rfl, k36_mk w p, key⟩
theorem info25z : (Try.prog.info? 25).map (·.zero) = some (some (.agg #[(.int .i64 0), (.int .i64 0), (.int .i64 0), (.int .i64 0), (.int .i64 0), (.int .i64 0), (.int .i64 0), (.int .i64 0)])) := by kernel_rfl

set_option maxRecDepth 100000 in
set_option maxHeartbeats 4000000 in

theorem example_row (w : World) :
    Calls Try.prog 40 #[] w fun e w' => ∃ A c, e = .returned (.tuple #[.agg #[.int .i64 1, .int .i64 2, .int .i64 15, .int .i64 40, .int .i64 10, .int .i64 20, .int .i64 10, .int .i64 15], .slice A 3 c]) ∧ 3 ≤ c ∧ Kd.C k36 w' A 3 eL ∧ Below w.heap.size w w' := by
  have hu25 := Try.underlying25
  refine E.enter (N := 12) Try.func40 rfl Try.ntmps40 (args := []) (by simp) ?_
  have L := Below.refl w.heap.size w
  refine E.CG.seq ?_
  refine E.CG.list ?_
  refine E.GL.st rfl rfl rfl (E.ST.alloc rfl info25z fun g0 w0 e0 b0 l0 => ?_)
  have h0_L : w.heap.size ≤ g0 := by rw [e0]; exact L.size
  replace L := below_step L l0
  refine E.GL.run rfl rfl rfl (E.Runs.assign rfl rfl) ?_
  refine E.GL.done ?_
  refine E.QG.code ?_
  refine E.CG.seq ?_
  refine E.CG.list ?_
  refine E.GL.run rfl rfl rfl (E.Runs.build rfl (E.epc rfl (E.epc rfl E.epn)) (build23 _ _)) ?_
  refine E.GL.run rfl rfl rfl (E.Runs.build rfl (E.epc rfl (E.epc rfl E.epn)) (build23 _ _)) ?_
  refine E.GL.run rfl rfl rfl (E.Runs.build rfl (E.epc rfl (E.epc rfl (E.epc rfl (E.epc rfl (E.epc rfl (E.epc rfl E.epn)))))) (build25 _ _ _ _ _ _ _ _)) ?_
  refine E.GL.run rfl rfl rfl (E.Runs.build rfl (E.epc rfl (E.epc rfl E.epn)) (build23 _ _)) ?_
  refine E.GL.run rfl rfl rfl (E.Runs.build rfl (E.epc rfl (E.epc rfl (E.epc rfl E.epn))) (build36a _ _ _ _)) ?_
  refine E.GL.run rfl rfl rfl (E.Runs.build rfl (E.epc rfl (E.epc rfl E.epn)) (build23 _ _)) ?_
  refine E.GL.run rfl rfl rfl (E.Runs.build rfl (E.epc rfl (E.epc rfl (E.epc rfl (E.epc rfl E.epn)))) (build36b _ _ _ _ _)) ?_
  refine E.GL.run rfl rfl rfl (E.Runs.build rfl (E.epc rfl (E.epc rfl E.epn)) (build23 _ _)) ?_
  refine E.GL.run rfl rfl rfl (E.Runs.build rfl (E.epc rfl (E.epc rfl (E.epc rfl E.epn))) (build36a _ _ _ _)) ?_
  refine E.GL.st rfl rfl rfl (E.ST.lit (cs := (six ⟨0, 100, ⟨90, 100⟩, 50, 0⟩ ++ six ⟨1, 110, ⟨60, 60⟩, 30, 0⟩ ++ six ⟨0, 230, ⟨90, 95⟩, 40, 0⟩).toArray) rfl (E.epc rfl (E.epc rfl (E.epc rfl E.epn))) (lit36 ⟨0, 100, ⟨90, 100⟩, 50, 0⟩ ⟨1, 110, ⟨60, 60⟩, 30, 0⟩ ⟨0, 230, ⟨90, 95⟩, 40, 0⟩) ?_)
  obtain ⟨w11, e11, l11, b11⟩ : ∃ w11, w11 = w0.alloc (.cells (six ⟨0, 100, ⟨90, 100⟩, 50, 0⟩ ++ six ⟨1, 110, ⟨60, 60⟩, 30, 0⟩ ++ six ⟨0, 230, ⟨90, 95⟩, 40, 0⟩).toArray 36 (0, 0)) ∧ Below w0.heap.size w0 w11 ∧ w11.heap[w0.heap.size]? = some (.cells (six ⟨0, 100, ⟨90, 100⟩, 50, 0⟩ ++ six ⟨1, 110, ⟨60, 60⟩, 30, 0⟩ ++ six ⟨0, 230, ⟨90, 95⟩, 40, 0⟩).toArray 36 (0, 0)) := ⟨_, rfl, below_alloc (Below.refl _ _) _, blk_new _ _⟩
  rw [← e11]
  have n11 : w0.heap.size ≠ g0 := by have := blk_lt b0; omega
  replace b0 := blk_below b0 l11
  replace L := below_step L l11
  refine E.GL.store_whole rfl rfl rfl rfl rfl b0 rfl info25s (eight_one _ _ _ _ _ _ _ _) fun wS1_10 c0 lS1_10 => ?_
  replace L := E.below_own L h0_L lS1_10
  replace b0 := c0
  clear c0
  have C3 := C_three _ _ _ (blk_grown b11 lS1_10 (E.nes n11))
  refine E.GL.run rfl rfl rfl (E.Runs.assign rfl rfl) ?_
  refine E.GL.done ?_
  refine E.QG.code ?_
  refine E.CG.ret ?_
  exact E.QG.result_ct rfl rfl b0 hu25 rfl info25s rfl ⟨_, _, rfl, Nat.le_refl _, C3, L⟩

end Go.Proofs.Ythdbkhdiaehblaa.T
