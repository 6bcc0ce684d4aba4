/- A law's arguments, opened: a slot and a minute. -/
import Derived.Test.YthdbkhdiaehblaaT31
namespace Go.Proofs.Ythdbkhdiaehblaa.T
open Go.ChangeShapes Go.WideShapes Go.ChangeAt Go.Deep
open Go.RowKit Go.Proofs.YthdbkhdiaehblaaW.PrintWords Go.Proofs.YthdbkhdiaehblaaW.PrintMore
open Go.Proofs.Ythdbkhdiaehblaa.P
set_option linter.unusedVariables false
section
variable {X : Type} {enc : TypeId × Value → X} {w : World} {base : Nat} {spare : Nat → Bool} {held : Bool}
theorem c38 : Try.prog.cellsOf 38 = 7 := by kernel_rfl
theorem seven_of {cs : List Value} (h : cs.length = 7) : ∃ a b c d e f g, cs = [a, b, c, d, e, f, g] := by
  match cs, h with
  | [a, b, c, d, e, f, g], _ => exact ⟨a, b, c, d, e, f, g, rfl⟩
theorem trod_last {n : Nat} {cs : List Value} {x : DataW X × List MemPlace} (h : DataW.trod enc Try.prog w base spare held n 38 cs = some x) :
    ∃ (s : S36) (m : Int), cs = [.int .i64 s.f0, .int .i64 s.f1, .int .i64 s.f2.f0, .int .i64 s.f2.f1, .int .i64 s.f3, .int .i64 s.f4, .int .i64 m] := by
  obtain ⟨xs, k, _, hx, hl, hlen, hg⟩ := DataW.trod_struct Try.underlying38 h
  rw [c38] at hl
  obtain ⟨v0, v1, v2, v3, v4, v5, v6, rfl⟩ := seven_of hl
  obtain ⟨y0, h0⟩ := fld hlen hg 0 _ rfl 36 0 6 rfl rfl c36
  obtain ⟨y1, h1⟩ := fld hlen hg 1 _ rfl 3 6 1 rfl rfl c3
  obtain ⟨s, hs⟩ := trod_slot h0
  obtain ⟨m, hm⟩ := trod_i64 h1
  simp only [List.drop_zero, List.take_succ_cons, List.take_zero, List.drop_succ_cons, List.cons.injEq, and_true] at hs hm
  obtain ⟨a0, a1, a2, a3, a4, a5⟩ := hs
  subst a0 a1 a2 a3 a4 a5 hm
  exact ⟨s, m, rfl⟩
set_option maxRecDepth 100000 in
theorem last_open {r : Reach} {b0 : Nat} {v : Value} {d : DataW X} {p : List MemPlace} (hval : Value.okWide Try.prog w r b0 38 v) (h : DataW.Trod enc Try.prog w base spare held 38 v d p) :
    ∃ (s : S36) (m : Int), v = .agg #[.int .i64 s.f0, .int .i64 s.f1, .int .i64 s.f2.f0, .int .i64 s.f2.f1, .int .i64 s.f3, .int .i64 s.f4, .int .i64 m] := by
  obtain ⟨cs, rfl, hsz⟩ := okWide_struct Try.underlying38 hval
  obtain ⟨n, hn⟩ := h
  obtain ⟨s, m, hH⟩ := trod_last hn
  obtain ⟨l⟩ := cs
  obtain rfl : l = _ := hH
  exact ⟨s, m, rfl⟩
end
end Go.Proofs.Ythdbkhdiaehblaa.T
