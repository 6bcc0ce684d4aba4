/- A law's arguments, opened: what is easier. -/
import Derived.Test.YthdbkhdiaehblaaT31
namespace Go.Proofs.Ythdbkhdiaehblaa.T
open Go.ChangeShapes Go.WideShapes Go.ChangeAt Go.Deep
open Go.RowKit Go.Proofs.YthdbkhdiaehblaaW.PrintWords Go.Proofs.YthdbkhdiaehblaaW.PrintMore
open Go.Proofs.Ythdbkhdiaehblaa.P
set_option linter.unusedVariables false
section
variable {X : Type} {enc : TypeId × Value → X} {w : World} {base : Nat} {spare : Nat → Bool} {held : Bool}
theorem c59 : Try.prog.cellsOf 59 = 4 := by kernel_rfl
theorem trod_ease {n : Nat} {cs : List Value} {x : DataW X × List MemPlace} (h : DataW.trod enc Try.prog w base spare held n 59 cs = some x) :
    ∃ (r c k d : Int), cs = [.int .i64 r, .int .i64 c, .int .i64 k, .int .i64 d] := by
  obtain ⟨xs, k, _, hx, hl, hlen, hg⟩ := DataW.trod_struct Try.underlying59 h
  rw [c59] at hl
  obtain ⟨v0, v1, v2, v3, rfl⟩ := four_of hl
  obtain ⟨y0, h0⟩ := fld hlen hg 0 _ rfl 3 0 1 rfl rfl c3
  obtain ⟨y1, h1⟩ := fld hlen hg 1 _ rfl 3 1 1 rfl rfl c3
  obtain ⟨y2, h2⟩ := fld hlen hg 2 _ rfl 3 2 1 rfl rfl c3
  obtain ⟨y3, h3⟩ := fld hlen hg 3 _ rfl 3 3 1 rfl rfl c3
  obtain ⟨r, hr⟩ := trod_i64 h0
  obtain ⟨c, hc⟩ := trod_i64 h1
  obtain ⟨k, hk⟩ := trod_i64 h2
  obtain ⟨d, hd⟩ := trod_i64 h3
  simp only [List.drop_zero, List.take_succ_cons, List.take_zero, List.drop_succ_cons, List.cons.injEq, and_true] at hr hc hk hd
  subst hr hc hk hd
  exact ⟨r, c, k, d, rfl⟩
set_option maxRecDepth 100000 in
theorem ease_open {r : Reach} {b0 : Nat} {v : Value} {d : DataW X} {p : List MemPlace} (hval : Value.okWide Try.prog w r b0 59 v) (h : DataW.Trod enc Try.prog w base spare held 59 v d p) :
    ∃ (r c k d : Int), v = .agg #[.int .i64 r, .int .i64 c, .int .i64 k, .int .i64 d] := by
  obtain ⟨cs, rfl, hsz⟩ := okWide_struct Try.underlying59 hval
  obtain ⟨n, hn⟩ := h
  obtain ⟨r, c, k, d, hH⟩ := trod_ease hn
  obtain ⟨l⟩ := cs
  obtain rfl : l = _ := hH
  exact ⟨r, c, k, d, rfl⟩
end
end Go.Proofs.Ythdbkhdiaehblaa.T
