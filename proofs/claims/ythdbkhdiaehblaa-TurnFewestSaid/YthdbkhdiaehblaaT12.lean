/- slices.Clone of slots, and whether a slot can stand behind others: the walks. -/
import Derived.Test.YthdbkhdiaehblaaT11
import Derived.Outline
import Derived.Lib.SliceRun
namespace Go.Proofs.Ythdbkhdiaehblaa.T
open Go.RowKit Go.Proofs.YthdbkhdiaehblaaW.PrintWords Go.Proofs.YthdbkhdiaehblaaW.PrintMore
open Go.Proofs.Ythdbkhdiaehblaa.P
set_option linter.unusedVariables false
set_option maxRecDepth 100000 in
set_option maxHeartbeats 2000000 in
theorem clone_calls (l : List S36) (A1 : Option Addr) (c1 : Nat) (w : World) (hn : l.length ≤ 1000000) (hr : Kd.C k36 w A1 l.length l) (hc : l.length ≤ c1) :
    Calls Try.prog 48 #[.slice A1 l.length c1] w fun e w' => ∃ v, e = .returned v ∧ Kd.R k36 36 w' w.heap.size (fun _ => True) v l ∧ Below w.heap.size w w' := by
  have e0 := fun W => Lib.run_eql_slice_nil (P := Try.prog) W 26 36 A1 l.length c1 0 0 Try.underlying26
  have HR := Aside0.mk hr
  cases hA : A1 with
  | none =>
    subst hA
    have hl : l = [] := by
      rcases Nat.eq_zero_or_pos l.length with h | h
      · exact List.eq_nil_of_length_eq_zero h
      · obtain ⟨ad, e, _⟩ := at_T36 hr 0 (by omega) (by omega)
        cases e
    have HL := Lib.hid hl
    clear hr hl
    go_enter Try.func48, Try.ntmps48
    go_wp2
    go_ret
    refine ⟨_, rfl, ?_, Below.refl _ _⟩
    rw [HL.out]
    exact Kd.R_nil _ _ _ _ _
  | some ad =>
    subst hA
    clear hr
    go_enter Try.func48, Try.ntmps48
    go_wp2_with (first
      | ((with_reducible refine gate_dst (N := 5) rfl ?_); refine Kd.R_lit k36 (w0 := w) w.heap.size 36 ?hg (N := 5) ?hd (xs := ([] : List S36)) (inner := []) (ok := fun _ => True) (okp := fun _ => True) ?hr ?hp (fun _ hk => hk) trivial (Below.refl _ _) (Nat.le_refl _) (by simp) ?_; (case hd => rfl); (case hg => rfl); (case hr => first | (go_simp; done) | (go_simp; rfl)); (case hp => exact (Reps.none _ _)); intro v5 w5 o5 l5 _g _h; have O5 := Aside0.mk o5; have L5 := Aside0.mk l5; clear o5 l5 _g _h)
      | ((with_reducible refine gate_builtin (b := .append) (xs := #[.tmp 5, .tmp 6]) rfl ?_); at_builtin; refine Kd.R_append_rows k36 (w0 := w) w.heap.size rfl (.tmp 5) (.tmp 6) 26 36 _ 48 rfl Try.underlying26 info36 rfl (by decide) (by omega) v5 [] l _ _ _ (fun _ => True) (fun _ => False) rfl rfl O5.out (Kd.C_below HR.out L5.out) (fun _ _ h => h) (fun _ h => h.elim) (fun _ _ => trivial) L5.out L5.out.size ?aL ?_; (case aL => simp only [List.length_nil]; omega); intro v6 w6 o6 l6 _g _h; have O6 := Aside0.mk o6; have L6 := Aside0.mk l6; clear o6 l6 _g _h))
    go_ret
    exact ⟨_, rfl, by simpa using O6.out, L6.out⟩
end Go.Proofs.Ythdbkhdiaehblaa.T
