/- Contracts of the smallest functions of the program: paces and how many minutes a crowd needs. -/
import Derived.Test.YthdbkhdiaehblaaU2
namespace Go.Proofs.Ythdbkhdiaehblaa.T
open Go.RowKit Go.Proofs.YthdbkhdiaehblaaW.PrintWords Go.Proofs.YthdbkhdiaehblaaW.PrintMore
open Go.Proofs.Ythdbkhdiaehblaa.P


set_option maxRecDepth 100000 in
theorem early_calls (h : Hs) (w : World) :
    Calls Try.prog 42 #[hv h] w fun e w' => e = .returned (.agg #[.func (.func 61) #[] #[], .int .i64 h.cl, .int .i64 h.dh]) ∧ Below w.heap.size w w' := by
  have hu25 := Try.underlying25
  have hu80 := Try.underlying80
  have hu78 := Try.underlying78
  go_enter Try.func42, Try.ntmps42
  go_wp2
  refine bodyPost_ret (v := .agg #[.func (.func 61) #[] #[], .int .i64 h.cl, .int .i64 h.dh]) (by simp [results, Try.results42, go_sem]) rfl ⟨rfl, ?_⟩
  exact below_alloc (below_alloc (Below.refl _ _) _) _
set_option maxRecDepth 100000 in
theorem late_calls (h : Hs) (w : World) :
    Calls Try.prog 43 #[hv h] w fun e w' => e = .returned (.agg #[.func (.func 62) #[] #[], .int .i64 h.ch, .int .i64 h.dl]) ∧ Below w.heap.size w w' := by
  have hu25 := Try.underlying25
  have hu80 := Try.underlying80
  have hu78 := Try.underlying78
  go_enter Try.func43, Try.ntmps43
  go_wp2
  refine bodyPost_ret (v := .agg #[.func (.func 62) #[] #[], .int .i64 h.ch, .int .i64 h.dl]) (by simp [results, Try.results43, go_sem]) rfl ⟨rfl, ?_⟩
  exact below_alloc (below_alloc (Below.refl _ _) _) _
set_option maxRecDepth 100000 in
theorem early1_calls (s : S36) (w : World) :
    Calls Try.prog 61 #[sv s] w fun e w' => e = .returned (.int .i64 s.f2.f0) ∧ Below w.heap.size w w' := by
  have hu36 := Try.underlying36
  go_enter Try.func61, Try.ntmps61
  go_wp2
  go_ret
  exact ⟨rfl, below_alloc (Below.refl _ _) _⟩
set_option maxRecDepth 100000 in
theorem late1_calls (s : S36) (w : World) :
    Calls Try.prog 62 #[sv s] w fun e w' => e = .returned (.int .i64 s.f2.f1) ∧ Below w.heap.size w w' := by
  have hu36 := Try.underlying36
  go_enter Try.func62, Try.ntmps62
  go_wp2
  go_ret
  exact ⟨rfl, below_alloc (Below.refl _ _) _⟩
set_option maxRecDepth 100000 in
theorem passes_calls (f : Value) (a1 a2 c : Int) (w : World) (h0 : 0 ≤ c) (h1 : c ≤ 1000) (h2 : 1 ≤ a2) (h3 : a2 ≤ 1000) :
    Calls Try.prog 64 #[.agg #[f, .int .i64 a1, .int .i64 a2], .int .i64 c] w fun e w' => e = .returned (.int .i64 ((c + a2 - 1) / a2)) ∧ Below w.heap.size w w' := by
  have hu80 := Try.underlying80
  go_enter Try.func64, Try.ntmps64
  go_wp2
  go_ret
  exact ⟨rfl, below_alloc (Below.refl _ _) _⟩
end Go.Proofs.Ythdbkhdiaehblaa.T
