/- Texts of this claim, put together: Z, A0, E0, Z2, E1, E2, E3, E4, E5, E6, E7, E8, E9, E10, E11, E12, E13, E14, E15, E16, E17, E18, E19, E20, E21, E22, E23, E24, E25, E26, E27, B1, N1, A1. -/
import Derived.Test.YtkjefnlhhfpllaaProg
import Derived.Below
import Derived.Deep.Draws
import Derived.Deep.AppendLies
import Derived.Maps.AppendAt
import Derived.OwnWalk
import Derived.Laws.BytesArg
import Derived.Laws.MakeOwn
import Derived.Laws.OwnMore
import Derived.Deep.OwnRows
import Derived.Tactics
import Derived.Lib.ConvBytes
import Derived.Laws.Slices
import Derived.WalkKit
import Derived.KernelRfl
import Derived.RowKit3
import Derived.Deep.LoopGhost
import Derived.Deep.QuietTactic
import Derived.BigQuiet
import Derived.WideLaws
import Derived.Deep.DeepCutAuto
import Derived.Deep.CutBlock
import Derived.Deep.RegionHeld3
import Derived.Laws.Rows
import Derived.Lib.AppendStr
import Derived.ArgAppend
import Derived.Laws.IdiomCopy
import Derived.OrdersHeld
import Derived.Laws.BitsLemmas
import Derived.RowKit
import Derived.Laws.EntriesVeiled
import Derived.Outline
import Derived.Deep.MidRow
import Derived.Deep.RegionHeld
import Derived.Lib.Hide
import Derived.Lib.SliceRun
import Derived.Test.YtkjefnlhhfpllaaWWords
import Derived.RangeFuncNested
import Derived.RangeFuncBound
import Derived.RangeFuncCalls
import Derived.RangeFuncLeaves
import Derived.OwnWalkIn
import Derived.MapKept
import Derived.Maps.RangeRun
import Derived.OrdersIn
import Derived.Scope
namespace Go.Proofs.YtkjefnlhhfpllaaW.PrintMore
open Go.RowKit Go.Proofs.YtkjefnlhhfpllaaW.PrintWords
set_option linter.unusedVariables false
set_option linter.unusedSimpArgs false
theorem max2_int (k k' : IntKind) (x y : Int) : Builtin.max2 (.int k x) (.int k' y) = pure (.int k (if x < y then y else x)) := by
 unfold Builtin.max2
 simp only [gt_iff_lt]
theorem min2_int (k k' : IntKind) (x y : Int) : Builtin.min2 (.int k x) (.int k' y) = pure (.int k (if y < x then y else x)) := by
 unfold Builtin.min2
 simp only [gt_iff_lt]
theorem max_two (ts : Array TypeId) (t : TypeId) (a b : Value) : Builtin.max_ ts t #[a, b] = (Builtin.max2 a b >>= fun s => pure s) := by simp only [Builtin.max_, List.foldlM_cons, List.foldlM_nil]
theorem min_two (ts : Array TypeId) (t : TypeId) (a b : Value) : Builtin.min_ ts t #[a, b] = (Builtin.min2 a b >>= fun s => pure s) := by simp only [Builtin.min_, List.foldlM_cons, List.foldlM_nil]
theorem max_three (ts : Array TypeId) (t : TypeId) (a b c : Value) : Builtin.max_ ts t #[a, b, c] = (Builtin.max2 a b >>= fun s => Builtin.max2 s c >>= fun s => pure s) := by simp only [Builtin.max_, List.foldlM_cons, List.foldlM_nil]
theorem min_three (ts : Array TypeId) (t : TypeId) (a b c : Value) : Builtin.min_ ts t #[a, b, c] = (Builtin.min2 a b >>= fun s => Builtin.min2 s c >>= fun s => pure s) := by simp only [Builtin.min_, List.foldlM_cons, List.foldlM_nil]
theorem max_four (ts : Array TypeId) (t : TypeId) (a b c d : Value) : Builtin.max_ ts t #[a, b, c, d] = (Builtin.max2 a b >>= fun s => Builtin.max2 s c >>= fun s => Builtin.max2 s d >>= fun s => pure s) := by simp only [Builtin.max_, List.foldlM_cons, List.foldlM_nil]
theorem min_four (ts : Array TypeId) (t : TypeId) (a b c d : Value) : Builtin.min_ ts t #[a, b, c, d] = (Builtin.min2 a b >>= fun s => Builtin.min2 s c >>= fun s => Builtin.min2 s d >>= fun s => pure s) := by simp only [Builtin.min_, List.foldlM_cons, List.foldlM_nil]
section
variable {P : Program} {ops : Array Oper} {rest : List Oper} {o : Oper} {a : Act} {W : World} {Q : Exit → Act → World → Prop}
end
/-- The greater of two. -/
def mx (a b : Int) : Int := if a < b then b else a
/-- The smaller of two. -/
def mn (a b : Int) : Int := if b < a then b else a
theorem cell_grown {W w1 : World} {row : Option Nat} (hg : W.grownBy w1 row) {a : Addr} {v : Value} (h : W.cell? a = some v) (hne : some a.block ≠ row) : w1.cell? a = some v := hg.cell h hne
theorem Kd.R_tight {α : Type} {d : Kd α} {e base : Nat} {ok : Nat → Prop} {w : World} {v : Value} {xs : List α} (hE : d.E = []) (h : d.R e w base ok v xs) : d.R e w base (fun k => some k = v.ownBlock) v xs := by
 obtain ⟨h0, inner, ho, hr⟩ := h
 refine ⟨fun k hk => hk.symm, inner, ho, hr.imp_ (fun p c hp => d.M_mono (fun k hk => ?_) (d.M_bound hp))⟩
 obtain ⟨_, _, _, q, hq, _⟩ := hk
 rw [hE] at hq
 cases hq
theorem Kd.R_grown1 {α : Type} {d : Kd α} {e base : Nat} {ok : Nat → Prop} {W w1 : World} {v : Value} {xs : List α} (h : d.R e W base ok v xs) (hE : d.E = []) {row : Option Nat} (hg : W.grownBy w1 row) (hne : row ≠ v.ownBlock) : d.R e w1 base ok v xs := 
 Kd.R_mono (Kd.R_grown (Kd.R_tight hE h) hg (fun _ hk e_ => hne (e_.symm.trans hk))) (fun k hk => h.1 k hk.symm)
end Go.Proofs.YtkjefnlhhfpllaaW.PrintMore
namespace Go.Proofs.Ytkjefnlhhfpllaa.P
open Go.RowKit Go.Proofs.YtkjefnlhhfpllaaW.PrintWords Go.Proofs.YtkjefnlhhfpllaaW.PrintMore
attribute [local go_sem] max2_int min2_int max_two min_two max_three min_three max_four min_four   -- for this text's walks alone
set_option linter.unusedVariables false
set_option linter.unusedSimpArgs false



theorem info3 : (Try.prog.info? 3).map (fun i => (i.zero, i.size, i.bytes)) = some (some (.int .i64 0), 1, 8) := by kernel_rfl
theorem info36 : (Try.prog.info? 36).map (fun i => (i.zero, i.size, i.bytes)) = some (some (.agg #[(.int .i64 0), (.int .i64 0), (.int .i64 0), (.slice none 0 0), (.slice none 0 0), (.int .i64 0), (.int .i64 0), (.int .i64 0), (.int .i64 0)]), 9, 104) := by kernel_rfl
theorem info55 : (Try.prog.info? 55).map (fun i => (i.zero, i.size, i.bytes)) = some (some (.agg #[(.int .i64 0), (.int .i64 0), (.int .i64 0), (.int .i64 0), (.int .i64 0), (.int .i64 0)]), 6, 48) := by kernel_rfl
theorem info64 : (Try.prog.info? 64).map (fun i => (i.zero, i.size, i.bytes)) = some (some (.agg #[(.int .i64 0), (.int .i64 0), (.int .i64 0), (.int .i64 0), (.int .i64 0)]), 5, 40) := by kernel_rfl
theorem info86 : (Try.prog.info? 86).map (fun i => (i.zero, i.size, i.bytes)) = some (some (.agg #[(.int .i64 0), (.int .i64 0)]), 2, 16) := by kernel_rfl
-- the values' own types
/-! #### struct type 86 -/
structure S86 where
 f0 : Int
 f1 : Int
def z86 : S86 := ⟨(0 : Int), (0 : Int)⟩
def k86 : Kd S86 := Kd.iso (Kd.pair (Kd.int .i64) (Kd.int .i64)) (fun x : S86 => (x.f0, x.f1))
theorem k86_open {w : World} {x : S86} {cs : List Value} (h : k86.K w x cs) : cs = [.int .i64 x.f0, .int .i64 x.f1] := by
 obtain ⟨_, _, rfl, rfl, rfl⟩ := h
 exact rfl
theorem k86_mk (w : World) (x : S86)  : k86.K w x [.int .i64 x.f0, .int .i64 x.f1] := ⟨[.int .i64 x.f0], [.int .i64 x.f1], rfl, rfl, rfl⟩
theorem k86_mkM (w : World) (base : Nat) (ok : Nat → Prop) (x : S86)  : k86.M w base ok x [.int .i64 x.f0, .int .i64 x.f1] := ⟨[.int .i64 x.f0], [.int .i64 x.f1], rfl, rfl, rfl⟩
/-! #### struct type 36 -/
structure S36 where
 f0 : Int
 f1 : Int
 f2 : Int
 f3 : (List Int)
 f4 : (List S86)
 f5 : Int
 f6 : Int
 f7 : Int
 f8 : Int
def z36 : S36 := ⟨(0 : Int), (0 : Int), (0 : Int), ([] : List Int), ([] : List S86), (0 : Int), (0 : Int), (0 : Int), (0 : Int)⟩
def k36 : Kd S36 := Kd.iso (Kd.pair (Kd.int .i64) (Kd.pair (Kd.int .i64) (Kd.pair (Kd.int .i64) (Kd.pair (Kd.slice 3 (Kd.int .i64)) (Kd.pair (Kd.slice 86 k86) (Kd.pair (Kd.int .i64) (Kd.pair (Kd.int .i64) (Kd.pair (Kd.int .i64) (Kd.int .i64))))))))) (fun x : S36 => (x.f0, x.f1, x.f2, x.f3, x.f4, x.f5, x.f6, x.f7, x.f8))
theorem k36_open {w : World} {x : S36} {cs : List Value} (h : k36.K w x cs) : ∃ A3 c3 A4 c4, cs = [.int .i64 x.f0, .int .i64 x.f1, .int .i64 x.f2, .slice A3 x.f3.length c3, .slice A4 x.f4.length c4, .int .i64 x.f5, .int .i64 x.f6, .int .i64 x.f7, .int .i64 x.f8] ∧ x.f3.length ≤ c3 ∧ (Kd.int .i64).C w A3 x.f3.length x.f3 ∧ x.f4.length ≤ c4 ∧ k86.C w A4 x.f4.length x.f4 := by
 obtain ⟨_, _, rfl, rfl, ⟨_, _, rfl, rfl, ⟨_, _, rfl, rfl, ⟨_, _, rfl, ⟨A3, c3, rfl, l3, g3⟩, ⟨_, _, rfl, ⟨A4, c4, rfl, l4, g4⟩, ⟨_, _, rfl, rfl, ⟨_, _, rfl, rfl, ⟨_, _, rfl, rfl, rfl⟩⟩⟩⟩⟩⟩⟩⟩ := h
 exact ⟨A3, c3, A4, c4, rfl, l3, g3, l4, g4⟩
theorem k36_mk (w : World) (x : S36) {A3 : Option Addr} {c3 : Nat} (l3 : x.f3.length ≤ c3) (g3 : (Kd.int .i64).C w A3 x.f3.length x.f3) {A4 : Option Addr} {c4 : Nat} (l4 : x.f4.length ≤ c4) (g4 : k86.C w A4 x.f4.length x.f4) : k36.K w x [.int .i64 x.f0, .int .i64 x.f1, .int .i64 x.f2, .slice A3 x.f3.length c3, .slice A4 x.f4.length c4, .int .i64 x.f5, .int .i64 x.f6, .int .i64 x.f7, .int .i64 x.f8] := ⟨[.int .i64 x.f0], [.int .i64 x.f1, .int .i64 x.f2, .slice A3 x.f3.length c3, .slice A4 x.f4.length c4, .int .i64 x.f5, .int .i64 x.f6, .int .i64 x.f7, .int .i64 x.f8], rfl, rfl, ⟨[.int .i64 x.f1], [.int .i64 x.f2, .slice A3 x.f3.length c3, .slice A4 x.f4.length c4, .int .i64 x.f5, .int .i64 x.f6, .int .i64 x.f7, .int .i64 x.f8], rfl, rfl, ⟨[.int .i64 x.f2], [.slice A3 x.f3.length c3, .slice A4 x.f4.length c4, .int .i64 x.f5, .int .i64 x.f6, .int .i64 x.f7, .int .i64 x.f8], rfl, rfl, ⟨[.slice A3 x.f3.length c3], [.slice A4 x.f4.length c4, .int .i64 x.f5, .int .i64 x.f6, .int .i64 x.f7, .int .i64 x.f8], rfl, ⟨A3, c3, rfl, l3, g3⟩, ⟨[.slice A4 x.f4.length c4], [.int .i64 x.f5, .int .i64 x.f6, .int .i64 x.f7, .int .i64 x.f8], rfl, ⟨A4, c4, rfl, l4, g4⟩, ⟨[.int .i64 x.f5], [.int .i64 x.f6, .int .i64 x.f7, .int .i64 x.f8], rfl, rfl, ⟨[.int .i64 x.f6], [.int .i64 x.f7, .int .i64 x.f8], rfl, rfl, ⟨[.int .i64 x.f7], [.int .i64 x.f8], rfl, rfl, rfl⟩⟩⟩⟩⟩⟩⟩⟩
theorem k36_mkM (w : World) (base : Nat) (ok : Nat → Prop) (x : S36) {v3 : Value} (g3 : (Kd.int .i64).R 3 w base ok v3 x.f3) {v4 : Value} (g4 : k86.R 86 w base ok v4 x.f4) : k36.M w base ok x [.int .i64 x.f0, .int .i64 x.f1, .int .i64 x.f2, v3, v4, .int .i64 x.f5, .int .i64 x.f6, .int .i64 x.f7, .int .i64 x.f8] := ⟨[.int .i64 x.f0], [.int .i64 x.f1, .int .i64 x.f2, v3, v4, .int .i64 x.f5, .int .i64 x.f6, .int .i64 x.f7, .int .i64 x.f8], rfl, rfl, ⟨[.int .i64 x.f1], [.int .i64 x.f2, v3, v4, .int .i64 x.f5, .int .i64 x.f6, .int .i64 x.f7, .int .i64 x.f8], rfl, rfl, ⟨[.int .i64 x.f2], [v3, v4, .int .i64 x.f5, .int .i64 x.f6, .int .i64 x.f7, .int .i64 x.f8], rfl, rfl, ⟨[v3], [v4, .int .i64 x.f5, .int .i64 x.f6, .int .i64 x.f7, .int .i64 x.f8], rfl, ⟨v3, rfl, g3⟩, ⟨[v4], [.int .i64 x.f5, .int .i64 x.f6, .int .i64 x.f7, .int .i64 x.f8], rfl, ⟨v4, rfl, g4⟩, ⟨[.int .i64 x.f5], [.int .i64 x.f6, .int .i64 x.f7, .int .i64 x.f8], rfl, rfl, ⟨[.int .i64 x.f6], [.int .i64 x.f7, .int .i64 x.f8], rfl, rfl, ⟨[.int .i64 x.f7], [.int .i64 x.f8], rfl, rfl, rfl⟩⟩⟩⟩⟩⟩⟩⟩
/-! #### struct type 55 -/
structure S55 where
 f0 : Int
 f1 : Int
 f2 : Int
 f3 : Int
 f4 : Int
 f5 : Int
def z55 : S55 := ⟨(0 : Int), (0 : Int), (0 : Int), (0 : Int), (0 : Int), (0 : Int)⟩
def k55 : Kd S55 := Kd.iso (Kd.pair (Kd.int .i64) (Kd.pair (Kd.int .i64) (Kd.pair (Kd.int .i64) (Kd.pair (Kd.int .i64) (Kd.pair (Kd.int .i64) (Kd.int .i64)))))) (fun x : S55 => (x.f0, x.f1, x.f2, x.f3, x.f4, x.f5))
theorem k55_open {w : World} {x : S55} {cs : List Value} (h : k55.K w x cs) : cs = [.int .i64 x.f0, .int .i64 x.f1, .int .i64 x.f2, .int .i64 x.f3, .int .i64 x.f4, .int .i64 x.f5] := by
 obtain ⟨_, _, rfl, rfl, ⟨_, _, rfl, rfl, ⟨_, _, rfl, rfl, ⟨_, _, rfl, rfl, ⟨_, _, rfl, rfl, rfl⟩⟩⟩⟩⟩ := h
 exact rfl
theorem k55_openM {w : World} {base : Nat} {ok : Nat → Prop} {x : S55} {cs : List Value} (h : k55.M w base ok x cs) : cs = [.int .i64 x.f0, .int .i64 x.f1, .int .i64 x.f2, .int .i64 x.f3, .int .i64 x.f4, .int .i64 x.f5] := by
 obtain ⟨_, _, rfl, rfl, ⟨_, _, rfl, rfl, ⟨_, _, rfl, rfl, ⟨_, _, rfl, rfl, ⟨_, _, rfl, rfl, rfl⟩⟩⟩⟩⟩ := h
 exact rfl
theorem k55_mk (w : World) (x : S55)  : k55.K w x [.int .i64 x.f0, .int .i64 x.f1, .int .i64 x.f2, .int .i64 x.f3, .int .i64 x.f4, .int .i64 x.f5] := ⟨[.int .i64 x.f0], [.int .i64 x.f1, .int .i64 x.f2, .int .i64 x.f3, .int .i64 x.f4, .int .i64 x.f5], rfl, rfl, ⟨[.int .i64 x.f1], [.int .i64 x.f2, .int .i64 x.f3, .int .i64 x.f4, .int .i64 x.f5], rfl, rfl, ⟨[.int .i64 x.f2], [.int .i64 x.f3, .int .i64 x.f4, .int .i64 x.f5], rfl, rfl, ⟨[.int .i64 x.f3], [.int .i64 x.f4, .int .i64 x.f5], rfl, rfl, ⟨[.int .i64 x.f4], [.int .i64 x.f5], rfl, rfl, rfl⟩⟩⟩⟩⟩
theorem k55_mkM (w : World) (base : Nat) (ok : Nat → Prop) (x : S55)  : k55.M w base ok x [.int .i64 x.f0, .int .i64 x.f1, .int .i64 x.f2, .int .i64 x.f3, .int .i64 x.f4, .int .i64 x.f5] := ⟨[.int .i64 x.f0], [.int .i64 x.f1, .int .i64 x.f2, .int .i64 x.f3, .int .i64 x.f4, .int .i64 x.f5], rfl, rfl, ⟨[.int .i64 x.f1], [.int .i64 x.f2, .int .i64 x.f3, .int .i64 x.f4, .int .i64 x.f5], rfl, rfl, ⟨[.int .i64 x.f2], [.int .i64 x.f3, .int .i64 x.f4, .int .i64 x.f5], rfl, rfl, ⟨[.int .i64 x.f3], [.int .i64 x.f4, .int .i64 x.f5], rfl, rfl, ⟨[.int .i64 x.f4], [.int .i64 x.f5], rfl, rfl, rfl⟩⟩⟩⟩⟩
/-! #### struct type 64 -/
structure S64 where
 f0 : Int
 f1 : Int
 f2 : Int
 f3 : Int
 f4 : Int
def z64 : S64 := ⟨(0 : Int), (0 : Int), (0 : Int), (0 : Int), (0 : Int)⟩
def k64 : Kd S64 := Kd.iso (Kd.pair (Kd.int .i64) (Kd.pair (Kd.int .i64) (Kd.pair (Kd.int .i64) (Kd.pair (Kd.int .i64) (Kd.int .i64))))) (fun x : S64 => (x.f0, x.f1, x.f2, x.f3, x.f4))
theorem k64_open {w : World} {x : S64} {cs : List Value} (h : k64.K w x cs) : cs = [.int .i64 x.f0, .int .i64 x.f1, .int .i64 x.f2, .int .i64 x.f3, .int .i64 x.f4] := by
 obtain ⟨_, _, rfl, rfl, ⟨_, _, rfl, rfl, ⟨_, _, rfl, rfl, ⟨_, _, rfl, rfl, rfl⟩⟩⟩⟩ := h
 exact rfl
theorem k64_openM {w : World} {base : Nat} {ok : Nat → Prop} {x : S64} {cs : List Value} (h : k64.M w base ok x cs) : cs = [.int .i64 x.f0, .int .i64 x.f1, .int .i64 x.f2, .int .i64 x.f3, .int .i64 x.f4] := by
 obtain ⟨_, _, rfl, rfl, ⟨_, _, rfl, rfl, ⟨_, _, rfl, rfl, ⟨_, _, rfl, rfl, rfl⟩⟩⟩⟩ := h
 exact rfl
theorem k64_mk (w : World) (x : S64)  : k64.K w x [.int .i64 x.f0, .int .i64 x.f1, .int .i64 x.f2, .int .i64 x.f3, .int .i64 x.f4] := ⟨[.int .i64 x.f0], [.int .i64 x.f1, .int .i64 x.f2, .int .i64 x.f3, .int .i64 x.f4], rfl, rfl, ⟨[.int .i64 x.f1], [.int .i64 x.f2, .int .i64 x.f3, .int .i64 x.f4], rfl, rfl, ⟨[.int .i64 x.f2], [.int .i64 x.f3, .int .i64 x.f4], rfl, rfl, ⟨[.int .i64 x.f3], [.int .i64 x.f4], rfl, rfl, rfl⟩⟩⟩⟩
theorem k64_mkM (w : World) (base : Nat) (ok : Nat → Prop) (x : S64)  : k64.M w base ok x [.int .i64 x.f0, .int .i64 x.f1, .int .i64 x.f2, .int .i64 x.f3, .int .i64 x.f4] := ⟨[.int .i64 x.f0], [.int .i64 x.f1, .int .i64 x.f2, .int .i64 x.f3, .int .i64 x.f4], rfl, rfl, ⟨[.int .i64 x.f1], [.int .i64 x.f2, .int .i64 x.f3, .int .i64 x.f4], rfl, rfl, ⟨[.int .i64 x.f2], [.int .i64 x.f3, .int .i64 x.f4], rfl, rfl, ⟨[.int .i64 x.f3], [.int .i64 x.f4], rfl, rfl, rfl⟩⟩⟩⟩
end Go.Proofs.Ytkjefnlhhfpllaa.P
namespace Go.Proofs.Ytkjefnlhhfpllaa.E
open Go.RowKit Go.Proofs.YtkjefnlhhfpllaaW.PrintWords Go.Proofs.YtkjefnlhhfpllaaW.PrintMore
set_option linter.unusedVariables false
abbrev Env := List (Nat × Value)
noncomputable def look (env : Env) (n : Nat) : Option Value :=
 List.rec (motive := fun _ => Option Value) none (fun kv _ ih => Prod.rec (motive := fun _ => Option Value) (fun k v => bif Nat.beq k n then some v else ih) kv) env
theorem look_nil (n : Nat) : look [] n = none := rfl
theorem look_cons (k : Nat) (v : Value) (r : Env) (n : Nat) : look ((k, v) :: r) n = bif Nat.beq k n then some v else look r n := rfl
/-- What is known of a frame of so many slots. -/
structure Holds (N : Nat) (a : Act) (env : Env) : Prop where
 size : a.tmps.size = N
 defers : a.defers = []
 get : ∀ n v, look env n = some v → a.tmps[n]? = some v
theorem Holds.put {N : Nat} {a : Act} {env : Env} (h : Holds N a env) {n : Nat} (v : Value) (hn : n < N) : Holds N (a.put (some n) v) ((n, v) :: env) := by
 refine ⟨by simp [Act.put, h.size], by simp [Act.put, h.defers], fun m u hm => ?_⟩
 rw [look_cons] at hm
 by_cases hk : n = m
 ·subst hk
  simp only [Nat.beq_refl, cond_true, Option.some.injEq] at hm
  subst hm
  simp [Act.put, h.size, hn]
 ·have : Nat.beq n m = false := by
   rw [← Bool.not_eq_true, Nat.beq_eq]
   exact hk
  rw [this] at hm
  simp only [cond_false] at hm
  have := h.get m u hm
  simp [Act.put, hk, this]
def Sub : Env → Env → Prop
 | [], _ => True
 | (k, v) :: r, env => look env k = some v ∧ Sub r env
theorem Sub.look : ∀ {e env : Env}, Sub e env → ∀ n v, E.look e n = some v → E.look env n = some v
 | [], _, _, n, v, h => by simp [look_nil] at h
 | (k, u) :: r, env, hs, n, v, h => by
  rw [look_cons] at h
  by_cases hk : k = n
  ·subst hk
   simp only [Nat.beq_refl, cond_true, Option.some.injEq] at h
   subst h
   exact hs.1
  ·have : Nat.beq k n = false := by
    rw [← Bool.not_eq_true, Nat.beq_eq]
    exact hk
   rw [this] at h
   simp only [cond_false] at h
   exact Sub.look hs.2 n v h
theorem Holds.sub {N : Nat} {a : Act} {env e : Env} (h : Holds N a env) (hs : Sub e env) : Holds N a e := ⟨h.size, h.defers, fun n v hn => h.get n v (hs.look n v hn)⟩
/-- An operand's value, as it is known. -/
def Ev (env : Env) : Operand → Value → Prop
 | .tmp n, v => look env n = some v
 | .const c, v => c = v
 | .func f, v => Value.func (.func f) #[] #[] = v
 | .global g, v => Value.pointer (some ⟨g, 0, none⟩) = v
theorem Holds.eval {N : Nat} {a : Act} {env : Env} (h : Holds N a env) {x : Operand} {v : Value} (e : Ev env x v) : a.eval x = v := by
 cases x with
 | tmp n =>
  have := h.get n v e
  show a.tmps.getD n undef = v
  rw [Array.getD_eq_getD_getElem?, this]
  rfl
 | const c => exact e
 | func f => exact e
 | global g => exact e
/-- An operation reads, and leaves this value. -/
def Runs (P : Program) (N : Nat) (env : Env) (o : Oper) (w : World) (v : Value) : Prop :=
 ∀ a w', Holds N a env → w'.heap = w.heap → (execOp a.eval o).run P w' = .ok (.value v) w'
/-- Whether an operation is wanted, as it is known. -/
noncomputable def want (ops : Array Oper) (env : Env) (o : Oper) : Option Bool :=
 match o.guard with
 | none => some true
 | some (j, b) => match (ops[j]?).bind (·.dst) with
  | some d => match look env d with
   | some (.bool c) => some (c == b)
   | some _ => some false
   | none => none
  | none => none
theorem wanted_of {N : Nat} {a : Act} {env : Env} (h : Holds N a env) {ops : Array Oper} {o : Oper} {t : Bool} (hw : want ops env o = some t) : Region.wanted o (yielded ops a.tmps) = t := by
 unfold want at hw
 unfold Region.wanted
 cases hg : o.guard with
 | none => simpa [hg] using hw
 | some p =>
  obtain ⟨j, b⟩ := p
  simp only [hg] at hw ⊢
  unfold yielded
  cases hd : (ops[j]?).bind (·.dst) with
  | none => simp [hd] at hw
  | some d =>
   simp only [hd] at hw
   simp only [Option.bind_some]
   cases hl : look env d with
   | none => simp [hl] at hw
   | some v =>
    rw [h.get d _ hl]
    cases v <;> simp only [hl, Option.some.injEq] at hw <;> subst hw <;> first | rfl | (rename_i c; cases c <;> cases b <;> rfl)
/-! ### Regions -/
def GQ (P : Program) (ops : Array Oper) (Q : Exit → Act → World → Prop) (N : Nat) (w : World) (rest : List Oper) (env : Env) : Prop :=
 ∀ a, Holds N a env → wpQuiet P ops (fun w' => ∃ n, w' = w.drewN n) (fun a' => ∀ w', (∃ n, w' = w.drewN n) → Q .normal a' w') rest a
def GL (P : Program) (ops : Array Oper) (Q : Exit → Act → World → Prop) (N : Nat) (w : World) (rest : List Oper) (env : Env) : Prop :=
 ∀ a, Holds N a env → wpList P ops Q rest a w
/-- What is asked at an exit, of a frame that is known so far. -/
def QG (Q : Exit → Act → World → Prop) (e : Exit) (N : Nat) (env : Env) (w : World) : Prop := ∀ a, Holds N a env → Q e a w
def CG (P : Program) (c : Code) (Q : Exit → Act → World → Prop) (N : Nat) (env : Env) (w : World) : Prop := ∀ a, Holds N a env → c.wp P Q a w
section
variable {P : Program} {ops : Array Oper} {Q : Exit → Act → World → Prop} {N : Nat} {w : World} {rest : List Oper} {env : Env} {o : Oper}
theorem heap_drewN (w : World) (n : Nat) : (w.drewN n).heap = w.heap := rfl
theorem GQ.run {n : Nat} {v : Value} (hd : o.dst = some n) (hn : Nat.blt n N = true) (hw : want ops env o = some true) (hr : Runs P N env o w v) (h : GQ P ops Q N w rest ((n, v) :: env)) : GQ P ops Q N w (o :: rest) env := by
 intro a ha
 refine BigFrame.wpQuiet_want (wanted_of ha hw) fun K hK => ⟨v, fun w' hw' => ?_, ?_⟩
 ·obtain ⟨m, rfl⟩ := hw'
  unfold Oper.quietAt
  rw [hr a _ ha (heap_drewN w m)]
  exact ⟨rfl, rfl⟩
 ·rw [hd]
  exact hK _ (h _ (ha.put v (by simpa [Nat.blt_eq] using hn)))
theorem GQ.skip {n : Nat} (hd : o.dst = some n) (hn : Nat.blt n N = true) (hw : want ops env o = some false) (h : GQ P ops Q N w rest ((n, undef) :: env)) : GQ P ops Q N w (o :: rest) env := by
 intro a ha
 refine BigFrame.wpQuiet_skip (wanted_of ha hw) ?_
 rw [hd]
 exact h _ (ha.put undef (by simpa [Nat.blt_eq] using hn))
theorem GQ.done (h : ∀ m, QG Q .normal N env (w.drewN m)) : GQ P ops Q N w [] env := by
 intro a ha
 refine wpQuiet_nil ?_
 rintro w' ⟨m, rfl⟩
 exact h m a ha
theorem GL.run {n : Nat} {v : Value} (hd : o.dst = some n) (hn : Nat.blt n N = true) (hw : want ops env o = some true) (hr : Runs P N env o w v) (h : GL P ops Q N w rest ((n, v) :: env)) : GL P ops Q N w (o :: rest) env := by
 intro a ha
 refine BigFrame.wpList_want (wanted_of ha hw) fun K hK => ?_
 unfold Oper.wp
 rw [hr a w ha rfl]
 show K (a.put o.dst v) w
 rw [hd]
 exact hK _ _ (h _ (ha.put v (by simpa [Nat.blt_eq] using hn)))
theorem GL.skip {n : Nat} (hd : o.dst = some n) (hn : Nat.blt n N = true) (hw : want ops env o = some false) (h : GL P ops Q N w rest ((n, undef) :: env)) : GL P ops Q N w (o :: rest) env := by
 intro a ha
 refine wpList_skip (wanted_of ha hw) ?_
 rw [hd]
 exact h _ (ha.put undef (by simpa [Nat.blt_eq] using hn))
theorem GL.done (h : QG Q .normal N env w) : GL P ops Q N w [] env := fun a ha => wpList_nil (h a ha)
/-- Any law of the kit's that makes one step. -/
theorem GL.step {n : Nat} (hd : o.dst = some n) (hn : Nat.blt n N = true) (hs : ∀ a, Holds N a env → (∀ v w1, GL P ops Q N w1 rest ((n, v) :: env) → wpList P ops Q rest (a.put o.dst v) w1) → wpList P ops Q (o :: rest) a w) : GL P ops Q N w (o :: rest) env := by
 intro a ha
 refine hs a ha fun v w1 h => ?_
 rw [hd]
 exact h _ (ha.put v (by simpa [Nat.blt_eq] using hn))
/-! ### Code -/
theorem CG.seq {x y : Code} (h : CG P x (Exit.then (y.wp P Q) Q) N env w) : CG P (.seq x y) Q N env w := fun a ha => wp_seq (h a ha)
theorem CG.cond_t {c : Operand} {x y : Code} (hc : Ev env c (.bool true)) (h : CG P x Q N env w) : CG P (.cond c x y) Q N env w := fun a ha => wp_cond_true (ha.eval hc) (h a ha)
theorem CG.cond_f {c : Operand} {x y : Code} (hc : Ev env c (.bool false)) (h : CG P y Q N env w) : CG P (.cond c x y) Q N env w := fun a ha => wp_cond_false (ha.eval hc) (h a ha)
theorem CG.block {id : Nat} {c : Code} (h : CG P c (Exit.inBlock id Q) N env w) : CG P (.block id c) Q N env w := fun a ha => wp_block (h a ha)
theorem CG.skip (h : QG Q .normal N env w) : CG P .skip Q N env w := fun a ha => wp_skip (h a ha)
theorem CG.exit {id : Nat} (h : QG Q (.exit id) N env w) : CG P (.exit id) Q N env w := fun a ha => wp_exit (h a ha)
theorem CG.ret (h : QG Q .ret N env w) : CG P .ret Q N env w := fun a ha => wp_ret (h a ha)
theorem CG.label {l : Nat} (h : QG Q .normal N env w) : CG P (.label l) Q N env w := fun a ha => wp_label (h a ha)
theorem CG.quiet {id : Nat} {l : List Oper} (hm : P.follows .mixedOrders = true) (hB : Region.lexB .any l.toArray = true) (h : GQ P l.toArray Q N w l env) : CG P (.region id l.toArray true) Q N env w :=
 fun a ha => wp_region_quiet_lit hm hB (h a ha)
theorem CG.list {id : Nat} {l : List Oper} (h : GL P l.toArray Q N w l env) : CG P (.region id l.toArray false) Q N env w := by
 intro a ha
 refine wp_region ?_
 have := wpOps_eq_wpList (P := P) (ops := l.toArray) (Q := Q) l 0 (fun j => by simp)
 rw [List.range_eq_range']
 simp only [List.size_toArray]
 rw [this]
 exact h a ha
theorem CG.loop {c : Code} {γ : Type} (E : γ → Env) (R : γ → World → Prop) (m : γ → Nat) (g0 : γ) (h0 : Sub (E g0) env) (hR : R g0 w)
  (round : ∀ g w', R g w' → CG P c (Exit.then (fun a'' w'' => ∃ g', Holds N a'' (E g') ∧ R g' w'' ∧ m g' < m g) Q) N (E g) w') : CG P (.loop c) Q N env w := by
 intro a ha
 refine wp_loop_ghost (fun n a w => ∃ g, m g = n ∧ Holds N a (E g) ∧ R g w) (m g0) ⟨g0, rfl, ha.sub h0, hR⟩ ?_
 rintro n a1 w1 ⟨g, rfl, hh, hr⟩
 refine wp_mono (round g w1 hr a1 hh) ?_
 intro e a' w' hq
 cases e <;> first | exact hq | (obtain ⟨g', h1, h2, h3⟩ := hq; exact ⟨_, h3, g', rfl, h1, h2⟩)
theorem QG.round {γ : Type} {E : γ → Env} {R : γ → World → Prop} {m : γ → Nat} {g : γ} (g' : γ) (h0 : Sub (E g') env) (hR : R g' w) (hm : m g' < m g) :
  QG (Exit.then (fun a'' w'' => ∃ g', Holds N a'' (E g') ∧ R g' w'' ∧ m g' < m g) Q) .normal N env w := fun a ha => ⟨g', ha.sub h0, hR, hm⟩
theorem QG.pass_exit {K : Act → World → Prop} {id : Nat} (h : QG Q (.exit id) N env w) : QG (Exit.then K Q) (.exit id) N env w := h
theorem QG.pass_ret {K : Act → World → Prop} (h : QG Q .ret N env w) : QG (Exit.then K Q) .ret N env w := h
theorem QG.block_normal {id : Nat} (h : QG Q .normal N env w) : QG (Exit.inBlock id Q) .normal N env w := h
theorem QG.block_ret {id : Nat} (h : QG Q .ret N env w) : QG (Exit.inBlock id Q) .ret N env w := h
theorem QG.block_here {id : Nat} (h : QG Q .normal N env w) : QG (Exit.inBlock id Q) (.exit id) N env w := fun a ha => by
 have := h a ha
 simpa [Exit.inBlock] using this
theorem QG.block_out {id id' : Nat} (hne : Nat.beq id' id = false) (h : QG Q (.exit id') N env w) : QG (Exit.inBlock id Q) (.exit id') N env w := fun a ha => by
 have hn : id' ≠ id := fun e => by subst e; simp at hne
 have := h a ha
 simpa [Exit.inBlock, hn] using this
theorem QG.result {fn : Func} {R : Ending → World → Prop} {t : Tmp} {v : Value} (hf : fn.results = #[.tmp t]) (hv : look env t = some v) (h : R (.returned v) w) : QG (bodyPost P fn R) .ret N env w := by
 intro a ha
 refine ⟨ha.defers, v, ?_, h⟩
 rw [results_tmp hf]
 have := ha.eval (x := .tmp t) (v := v) hv
 exact congrArg (fun x => Result.ok x w) this
/-! ### What operations leave -/
theorem Runs.move {x : Operand} {v : Value} (ho : o.op = .move x) (hx : Ev env x v) : Runs P N env o w v := fun a w' ha _ => by rw [BigFrame.run_move x ho, ha.eval hx]
theorem Runs.assign {x : Operand} {v : Value} (ho : o.op = .assign x) (hx : Ev env x v) : Runs P N env o w v := fun a w' ha _ => by rw [BigFrame.run_assign x ho, ha.eval hx]
theorem Runs.pick_t {c x y : Operand} {v : Value} (ho : o.op = .pick c x y) (hc : Ev env c (.bool true)) (hx : Ev env x v) : Runs P N env o w v := fun a w' ha _ => by
 unfold execOp; rw [ho]; simp only []; rw [ha.eval hc, ha.eval hx]; rfl
theorem Runs.pick_f {c x y : Operand} {v : Value} (ho : o.op = .pick c x y) (hc : Ev env c (.bool false)) (hy : Ev env y v) : Runs P N env o w v := fun a w' ha _ => by
 unfold execOp; rw [ho]; simp only []; rw [ha.eval hc, ha.eval hy]; rfl
theorem cell_heap {w w' : World} (h : w'.heap = w.heap) (p : Addr) : w'.cell? p = w.cell? p := by unfold World.cell?; rw [h]
theorem Runs.load {t : TypeId} {x : Operand} {p : Addr} {k : IntKind} {v : Value} (ho : o.op = .load t x) (hx : Ev env x (.pointer (some p))) (hu : P.underlying t = some (.int k)) (hc : w.cell? p = some v) : Runs P N env o w v := fun a w' ha hw => by
 have hc' : w'.cell? p = some v := (cell_heap hw p).trans hc
 unfold execOp; rw [ho]; simp only []; rw [ha.eval hx]
 simp [go_sem, isAgg, run_underlying hu, hc']
theorem Runs.lss {t u : TypeId} {x y : Operand} {k : IntKind} {m n : Int} {b : Bool} (ho : o.op = .binOp .lss t x y u) (hx : Ev env x (.int k m)) (hy : Ev env y (.int k n)) (hb : (decide (m < n)) = b) : Runs P N env o w (.bool b) := fun a w' ha hw => by
 unfold execOp; rw [ho]; simp only []; rw [ha.eval hx, ha.eval hy]
 subst hb
 simp [go_sem]
theorem Runs.gtr {t u : TypeId} {x y : Operand} {k : IntKind} {m n : Int} {b : Bool} (ho : o.op = .binOp .gtr t x y u) (hx : Ev env x (.int k m)) (hy : Ev env y (.int k n)) (hb : (decide (n < m)) = b) : Runs P N env o w (.bool b) := fun a w' ha hw => by
 unfold execOp; rw [ho]; simp only []; rw [ha.eval hx, ha.eval hy]
 subst hb
 simp [go_sem]
theorem Runs.leq {t u : TypeId} {x y : Operand} {k : IntKind} {m n : Int} {b : Bool} (ho : o.op = .binOp .leq t x y u) (hx : Ev env x (.int k m)) (hy : Ev env y (.int k n)) (hb : (decide (m ≤ n)) = b) : Runs P N env o w (.bool b) := fun a w' ha hw => by
 unfold execOp; rw [ho]; simp only []; rw [ha.eval hx, ha.eval hy]
 subst hb
 simp [go_sem]
theorem Runs.geq {t u : TypeId} {x y : Operand} {k : IntKind} {m n : Int} {b : Bool} (ho : o.op = .binOp .geq t x y u) (hx : Ev env x (.int k m)) (hy : Ev env y (.int k n)) (hb : (decide (n ≤ m)) = b) : Runs P N env o w (.bool b) := fun a w' ha hw => by
 unfold execOp; rw [ho]; simp only []; rw [ha.eval hx, ha.eval hy]
 subst hb
 simp [go_sem]
theorem Runs.eql {t u : TypeId} {x y : Operand} {k : IntKind} {m n : Int} {b : Bool} (ho : o.op = .binOp .eql t x y u) (hx : Ev env x (.int k m)) (hy : Ev env y (.int k n)) (hb : (decide (m = n)) = b) : Runs P N env o w (.bool b) := fun a w' ha hw => by
 unfold execOp; rw [ho]; simp only []; rw [ha.eval hx, ha.eval hy]
 subst hb
 simp [go_sem]
 try rfl
theorem Runs.neq {t u : TypeId} {x y : Operand} {k : IntKind} {m n : Int} {b : Bool} (ho : o.op = .binOp .neq t x y u) (hx : Ev env x (.int k m)) (hy : Ev env y (.int k n)) (hb : (!decide (m = n)) = b) : Runs P N env o w (.bool b) := fun a w' ha hw => by
 unfold execOp; rw [ho]; simp only []; rw [ha.eval hx, ha.eval hy]
 subst hb
 simp [go_sem]
 try rfl
theorem Runs.add {t u : TypeId} {x y : Operand} {k : IntKind} {m n r : Int} (ho : o.op = .binOp .add t x y u) (hx : Ev env x (.int k m)) (hy : Ev env y (.int k n)) (hb : k.wrap (m + n) = r) : Runs P N env o w (.int k r) := fun a w' ha hw => by
 unfold execOp; rw [ho]; simp only []; rw [ha.eval hx, ha.eval hy]
 subst hb
 simp [go_sem]
theorem Runs.sub {t u : TypeId} {x y : Operand} {k : IntKind} {m n r : Int} (ho : o.op = .binOp .sub t x y u) (hx : Ev env x (.int k m)) (hy : Ev env y (.int k n)) (hb : k.wrap (m - n) = r) : Runs P N env o w (.int k r) := fun a w' ha hw => by
 unfold execOp; rw [ho]; simp only []; rw [ha.eval hx, ha.eval hy]
 subst hb
 simp [go_sem]
theorem Runs.mul {t u : TypeId} {x y : Operand} {k : IntKind} {m n r : Int} (ho : o.op = .binOp .mul t x y u) (hx : Ev env x (.int k m)) (hy : Ev env y (.int k n)) (hb : k.wrap (m * n) = r) : Runs P N env o w (.int k r) := fun a w' ha hw => by
 unfold execOp; rw [ho]; simp only []; rw [ha.eval hx, ha.eval hy]
 subst hb
 simp [go_sem]
theorem Runs.not {t : TypeId} {x : Operand} {b : Bool} (ho : o.op = .unOp .not t x) (hx : Ev env x (.bool b)) : Runs P N env o w (.bool (!b)) := fun a w' ha hw => by
 unfold execOp; rw [ho]; simp only []; rw [ha.eval hx]
 simp [go_sem]
theorem Runs.extract {x : Operand} {i : Nat} {cs : Array Value} {v : Value} (ho : o.op = .extract x i) (hx : Ev env x (.tuple cs)) (hv : cs[i]? = some v) : Runs P N env o w v := fun a w' ha hw => by
 unfold execOp; rw [ho]; simp only []; rw [ha.eval hx]
 simp [go_sem, hv]
/-- An address, so many cells on. -/
def onA (p : Addr) : Nat → Addr
 | 0 => p
 | n + 1 => ⟨p.block, p.off + (n + 1), none⟩
theorem add_onA (p : Addr) : ∀ n, p.add n = onA p n
 | 0 => rfl
 | n + 1 => by simp [Addr.add, onA]
/-- A type whose values have a size. -/
def Sized (P : Program) (t : TypeId) : Prop := ∃ inf, P.info? t = some inf ∧ P.cellsOf t ≠ 0
theorem Runs.fieldAddr {t : TypeId} {x : Operand} {i : Nat} {p q : Addr} {fs : Array Field} {f : Field} (ho : o.op = .fieldAddr t x i) (hx : Ev env x (.pointer (some p))) (hu : P.underlying t = some (.struct fs)) (hf : fs[i]? = some f) (hz : Sized P f.type) (hq : onA p f.offset = q) : Runs P N env o w (.pointer (some q)) := fun a w' ha hw => by
 obtain ⟨inf, h1, h2⟩ := hz
 unfold execOp; rw [ho]; simp only []; rw [ha.eval hx]
 rw [← hq, ← add_onA]
 simp [go_sem, run_underlying hu, hf, run_sizeOf w' h1, h2]
theorem Runs.indexAddr {t e : TypeId} {x y : Operand} {p : Addr} {n c : Nat} {k : IntKind} {i : Nat} {sz : Nat} {q : Addr} (ho : o.op = .indexAddr t x y) (hx : Ev env x (.slice (some p) n c)) (hy : Ev env y (.int k i)) (hu : P.underlying t = some (.slice e)) (hz : Sized P e) (hs : P.cellsOf e = sz) (hl : (i : Int) < n) (hq : p.add (i * sz) = q) : Runs P N env o w (.pointer (some q)) := fun a w' ha hw => by
 obtain ⟨inf, h1, h2⟩ := hz
 unfold execOp; rw [ho]; simp only []; rw [ha.eval hx, ha.eval hy]
 subst hq hs
 have h3 : i < n := by omega
 simp [Instr.indexAt, asIntOf, run_underlying hu, run_sizeOf w' h1, h3]
theorem Runs.len {x : Operand} {t e : TypeId} {p : Option Addr} {n c : Nat} (ho : o.op = .call { callee := .builtin .len, args := #[x], argTypes := #[t] }) (hx : Ev env x (.slice p n c)) (hu : P.underlying t = some (.slice e)) : Runs P N env o w (.int .i64 n) := fun a w' ha hw => by
 have e := ha.eval hx
 generalize a.eval = ρ at e ⊢
 unfold execOp; rw [ho]
 simp [go_sem, e, Builtin.len_, run_underlying hu]
end
end Go.Proofs.Ytkjefnlhhfpllaa.E
namespace Go.Proofs.Ytkjefnlhhfpllaa.T
open Go.RowKit Go.Proofs.YtkjefnlhhfpllaaW.PrintWords Go.Proofs.YtkjefnlhhfpllaaW.PrintMore
open Go.Proofs.Ytkjefnlhhfpllaa.P
set_option linter.unusedVariables false
theorem gb_set {w W : World} {row : Option Nat} (h : w.grownBy W row) {a : Addr} (ha : w.heap.size ≤ a.block ∨ some a.block = row) (v : Value) : w.grownBy (W.setCell a v) row := by
 refine ⟨h.os, h.tape, h.output, by simpa [World.setCell] using h.size, fun k hk hr => (Below.heap_setCell W a v k ?_).trans (h.block k hk hr)⟩
 rcases ha with ha | ha
 ·omega
 ·rintro rfl
  exact hr ha
section
variable {P : Program} {ops : Array Oper} {rest : List Oper} {op : Oper} {a : Act} {w : World} {Q : Exit → Act → World → Prop}
theorem setCells_block {b : Nat} {t : TypeId} : ∀ (vs pre old : List Value) (w : World), w.heap[b]? = some (.cells (pre ++ old).toArray t (0, 0)) → old.length = vs.length →
  (w.setCells b pre.length vs).heap[b]? = some (.cells (pre ++ vs).toArray t (0, 0)) ∧ w.grownBy (w.setCells b pre.length vs) (some b)
 | [], pre, old, w, h, hl => by
  obtain rfl : old = [] := List.eq_nil_of_length_eq_zero hl
  exact ⟨h, World.grownBy.refl _ _⟩
 | v :: vs, pre, [], w, h, hl => by simp at hl
 | v :: vs, pre, o :: old, w, h, hl => by
  have h1 : (w.setCell ⟨b, pre.length, none⟩ v).heap[b]? = some (.cells ((pre ++ [v]) ++ old).toArray t (0, 0)) := by
   rw [blk_set h]
   congr 1
   simp
  have h2 := setCells_block vs (pre ++ [v]) old _ h1 (by simpa using hl)
  rw [List.length_append, List.length_singleton] at h2
  refine ⟨?_, ?_⟩
  ·have := h2.1
   rw [List.append_assoc] at this
   exact this
  ·exact (gb_set (World.grownBy.refl w _) (.inr rfl) v).trans h2.2
/-- A whole variable is stored over a block of its size. -/
theorem store_whole (hgd : op.guard = none) (ty : TypeId) (x y : Operand) (ho : op.op = .store ty x y) (b : Nat) (cells old : Array Value) (t : TypeId)
  (hx : a.eval x = .pointer (some ⟨b, 0, none⟩)) (hy : a.eval y = .agg cells) (hb : w.heap[b]? = some (.cells old t (0, 0))) (hs : old.size = cells.size)
  (hi : (P.info? ty).map (·.size) = some cells.size) (h1 : cells.all (·.oneCell') = true)
  (h : ∀ w1, w1.heap[b]? = some (.cells cells t (0, 0)) → w.grownBy w1 (some b) → wpList P ops Q rest (a.put op.dst undef) w1) : wpList P ops Q (op :: rest) a w := by
 have hk := setCells_block (b := b) (t := t) cells.toList [] old.toList w (by simpa using hb) (by simpa using hs)
 refine wpList_store_mid hgd ty x y ho b 0 cells hx hy ?_ hi h1 (h _ (by simpa using hk.1) hk.2)
 intro j hj
 constructor
 ·rw [blk_cell hb, Nat.zero_add, Array.getElem?_eq_getElem (by omega)]
  rfl
 ·exact blk_frozen hb _
end
end Go.Proofs.Ytkjefnlhhfpllaa.T
namespace Go.Proofs.Ytkjefnlhhfpllaa.E
open Go.RowKit Go.Proofs.YtkjefnlhhfpllaaW.PrintWords Go.Proofs.YtkjefnlhhfpllaaW.PrintMore
open Go.Proofs.Ytkjefnlhhfpllaa.T
set_option linter.unusedVariables false
def argEnv : Nat → List Value → Env
 | _, [] => []
 | k, v :: r => (k, v) :: argEnv (k + 1) r
theorem look_argEnv : ∀ (l : List Value) (k n : Nat) (v : Value), look (argEnv k l) n = some v → k ≤ n ∧ l[n - k]? = some v
 | [], k, n, v, h => by simp [argEnv, look_nil] at h
 | u :: r, k, n, v, h => by
  unfold argEnv at h
  rw [look_cons] at h
  by_cases hk : k = n
  ·subst hk
   simp only [Nat.beq_refl, cond_true, Option.some.injEq] at h
   subst h
   exact ⟨Nat.le_refl _, by simp⟩
  ·have : Nat.beq k n = false := by
    rw [← Bool.not_eq_true, Nat.beq_eq]
    exact hk
   rw [this] at h
   simp only [cond_false] at h
   obtain ⟨h1, h2⟩ := look_argEnv r (k + 1) n v h
   refine ⟨by omega, ?_⟩
   rw [show n - k = (n - (k + 1)) + 1 by omega]
   simpa using h2
section
variable {P : Program} {ops : Array Oper} {Q : Exit → Act → World → Prop} {N : Nat} {w : World} {rest : List Oper} {env : Env} {o : Oper}
theorem enter {f : FuncId} {fn : Func} {c : Code} {args : List Value} {R : Ending → World → Prop} (hf : P.funcs[f]? = some fn) (hb : fn.body = some c) (hn : fn.ntmps = N) (hl : args.length ≤ N) (h : CG P c (bodyPost P fn R) N (argEnv 0 args) w) : Calls P f args.toArray w R := by
 refine calls_of_wp hf hb (h _ ⟨?_, rfl, ?_⟩)
 ·simp [hn]; omega
 ·intro n v hv
  obtain ⟨_, h2⟩ := look_argEnv args 0 n v hv
  have hlt := (List.getElem?_eq_some_iff.1 h2).1
  simp only [Nat.sub_zero] at h2 hlt
  show (args.toArray ++ Array.replicate _ undef)[n]? = some v
  rw [Array.getElem?_append_left (by simpa using hlt)]
  simpa using h2
/-- A whole struct is read. -/
theorem Runs.loads {t : TypeId} {x : Operand} {p : Addr} {cs : List Value} {d : TypeDesc} (ho : o.op = .load t x) (hx : Ev env x (.pointer (some p))) (hu : P.underlying t = some d) (hd : d.isRow = true) (hi : (P.info? t).map (·.size) = some cs.length) (hc : ∀ j v, cs[j]? = some v → w.cell? (p.add j) = some v) : Runs P N env o w (.agg cs.toArray) := fun a w' ha hw => by
 have hl : (loadCells p cs.length).run P w' = .ok cs.toArray w' := run_loadCells_list (P := P) w' p cs (fun j v hv => (cell_heap hw _).trans (hc j v hv))
 unfold execOp; rw [ho]; simp only []; rw [ha.eval hx]
 cases hq : P.info? t with
 | none => simp [hq] at hi
 | some i =>
  have hs : i.size = cs.length := by simpa [hq] using hi
  have hagg : (isAgg t).run P w' = .ok true w' := by
   unfold isAgg
   rw [Sem.run_bind, run_underlying hu w']
   cases d <;> simp_all
  simp [Instr.loadAt, Instr.sureAddr, loadVar, Sem.run_bind, hagg, sizeOf, typeInfo, hq, hs, hl]
theorem GL.event {n : Nat} {v : Value} {w1 : World} (hd : o.dst = some n) (hn : Nat.blt n N = true) (hw : want ops env o = some true) (hr : ∀ a, Holds N a env → (execOp a.eval o).run P w = .ok (.value v) w1) (h : GL P ops Q N w1 rest ((n, v) :: env)) : GL P ops Q N w (o :: rest) env := by
 intro a ha
 refine BigFrame.wpList_want (wanted_of ha hw) fun K hK => ?_
 unfold Oper.wp
 rw [hr a ha]
 show K (a.put o.dst v) w1
 rw [hd]
 exact hK _ _ (h _ (ha.put v (by simpa [Nat.blt_eq] using hn)))
/-- A new variable that holds a value. -/
theorem GL.box {n : Nat} {t : TypeId} {x : Operand} {cs : Array Value} (hd : o.dst = some n) (hn : Nat.blt n N = true) (hw : want ops env o = some true) (ho : o.op = .box t x) (hx : Ev env x (.agg cs))
  (h : ∀ g w1, g = w.heap.size → w1.heap[g]? = some (.cells cs t (0, 0)) → Below w.heap.size w w1 → GL P ops Q N w1 rest ((n, .pointer (some ⟨g, 0, none⟩)) :: env)) : GL P ops Q N w (o :: rest) env := by
 refine GL.event hd hn hw (v := .pointer (some ⟨w.heap.size, 0, none⟩)) (w1 := w.alloc (.cells cs t (0, 0))) (fun a ha => ?_) (h _ _ rfl (blk_new w _) (below_alloc (Below.refl _ _) _))
 unfold execOp; rw [ho]; simp only []; rw [ha.eval hx]
 simp [go_sem]
/-- A new variable that holds its type's zero. -/
theorem GL.alloc {n : Nat} {t : TypeId} {cs : Array Value} (hd : o.dst = some n) (hn : Nat.blt n N = true) (hw : want ops env o = some true) (ho : o.op = .alloc t) (hz : (P.info? t).map (·.zero) = some (some (.agg cs)))
  (h : ∀ g w1, g = w.heap.size → w1.heap[g]? = some (.cells cs t (0, 0)) → Below w.heap.size w w1 → GL P ops Q N w1 rest ((n, .pointer (some ⟨g, 0, none⟩)) :: env)) : GL P ops Q N w (o :: rest) env := by
 refine GL.event hd hn hw (v := .pointer (some ⟨w.heap.size, 0, none⟩)) (w1 := w.alloc (.cells cs t (0, 0))) (fun a ha => ?_) (h _ _ rfl (blk_new w _) (below_alloc (Below.refl _ _) _))
 cases hq : P.info? t with
 | none => simp [hq] at hz
 | some i =>
  have hi : i.zero = some (.agg cs) := by simpa [hq] using hz
  unfold execOp; rw [ho]; simp only []
  simp [go_sem, zeroValue, typeInfo, hq, hi]
/-- A whole struct is written into a variable of its own. -/
theorem GL.store_whole {ty : TypeId} {x y : Operand} {b : Nat} {cells old : Array Value} {t : TypeId} (hd : o.dst = none) (hg : o.guard = none) (ho : o.op = .store ty x y) (hx : Ev env x (.pointer (some ⟨b, 0, none⟩))) (hy : Ev env y (.agg cells))
  (hb : w.heap[b]? = some (.cells old t (0, 0))) (hs : old.size = cells.size) (hi : (P.info? ty).map (·.size) = some cells.size) (h1 : cells.all (·.oneCell') = true)
  (h : ∀ w1, w1.heap[b]? = some (.cells cells t (0, 0)) → w.grownBy w1 (some b) → GL P ops Q N w1 rest env) : GL P ops Q N w (o :: rest) env := by
 intro a ha
 refine T.store_whole hg ty x y ho b cells old t (ha.eval hx) (ha.eval hy) hb hs hi h1 fun w1 h2 h3 => ?_
 rw [hd]
 exact h w1 h2 h3 a ha
/-- One cell is written. -/
theorem GL.store {ty : TypeId} {x y : Operand} {b i : Nat} {v : Value} {k : IntKind} {n : Int} {cs : Array Value} {t : TypeId} (hd : o.dst = none) (hg : want ops env o = some true) (ho : o.op = .store ty x y) (hz : Sized P ty) (hz1 : P.cellsOf ty = 1) (hx : Ev env x (.pointer (some ⟨b, i, none⟩))) (hy : Ev env y (.int k n))
  (hb : w.heap[b]? = some (.cells cs t (0, 0))) (hi : i < cs.size) (h : GL P ops Q N (w.setCell ⟨b, i, none⟩ (.int k n)) rest env) : GL P ops Q N w (o :: rest) env := by
 intro a ha
 have h1 : w.cell? ⟨b, i, none⟩ = some cs[i] := by rw [blk_cell hb, Array.getElem?_eq_getElem hi]
 have h2 : w.frozen? ⟨b, i, none⟩ = false := blk_frozen hb i
 refine BigFrame.wpList_want (wanted_of ha hg) fun K hK => ?_
 have hr : (execOp a.eval o).run P w = .ok .skip (w.setCell ⟨b, i, none⟩ (.int k n)) := by
  unfold execOp; rw [ho]; simp only []; rw [ha.eval hx, ha.eval hy]
  obtain ⟨inf, q1, q2⟩ := hz
  simp [go_sem, run_sizeOf w q1, hz1, h1, h2]
 unfold Oper.wp
 rw [hr]
 show K (a.put o.dst undef) _
 rw [hd]
 exact hK _ _ (h a ha)
def EvL (env : Env) : List Operand → List Value → Prop
 | [], [] => True
 | x :: xs, v :: vs => Ev env x v ∧ EvL env xs vs
 | _, _ => False
theorem evn {env : Env} : EvL env [] [] := trivial
theorem evc {env : Env} {x : Operand} {v : Value} {xs : List Operand} {vs : List Value} (h : Ev env x v) (k : EvL env xs vs) : EvL env (x :: xs) (v :: vs) := ⟨h, k⟩
theorem subn {env : Env} : Sub [] env := trivial
theorem subc {env r : Env} {k : Nat} {v : Value} (h : look env k = some v) (hr : Sub r env) : Sub ((k, v) :: r) env := ⟨h, hr⟩
theorem Holds.evalL {a : Act} (h : Holds N a env) : ∀ {xs : List Operand} {vs : List Value}, EvL env xs vs → xs.map a.eval = vs
 | [], [], _ => rfl
 | x :: xs, v :: vs, e => by rw [List.map_cons, h.eval e.1, Holds.evalL h e.2]
/-- A call of a Go function. -/
theorem GL.call {n : Nat} {f : FuncId} {xs : List Operand} {ts : Array TypeId} {vs : List Value} (hd : o.dst = some n) (hn : Nat.blt n N = true) (hw : want ops env o = some true)
  (ho : o.op = .call { callee := .value (.func f), args := xs.toArray, argTypes := ts }) (hf : ∀ args W, (callFunc f args).run P W = .ok (.enter f args) W) (hx : EvL env xs vs)
  (hc : Calls P f vs.toArray w (fun e w' => ∃ v, e = .returned v ∧ GL P ops Q N w' rest ((n, v) :: env))) : GL P ops Q N w (o :: rest) env := by
 intro a ha
 refine BigFrame.wpList_want (wanted_of ha hw) fun K hK => ?_
 have hr : (execOp a.eval o).run P w = .ok (.enter f vs.toArray) w := by
  have e := ha.evalL hx
  have ef : a.eval (.func f) = .func (.func f) #[] #[] := rfl
  generalize a.eval = ρ at e ef ⊢
  unfold execOp; rw [ho]
  simp [go_sem, e, ef, hf]
 unfold Oper.wp
 rw [hr]
 refine hc.mono ?_
 rintro e w' ⟨v, rfl, h⟩
 show K (a.put o.dst v) w'
 rw [hd]
 exact hK _ _ (h _ (ha.put v (by simpa [Nat.blt_eq] using hn)))
end
end Go.Proofs.Ytkjefnlhhfpllaa.E
namespace Go.Proofs.Ytkjefnlhhfpllaa.E
set_option linter.unusedVariables false
/-- What the check looks at of an operation: where it writes, what it looks at, what it waits for. -/
structure Inf where
 dst : Option Nat
 looks : List Nat
 edges : List Nat
def infOf (ops : Array Oper) (o : Oper) : Inf := ⟨o.dst, (o.looksAt ops), (o.after.toList.filter (Region.binds .any)).map (·.on)⟩
def apartI (x y : Inf) : Bool :=
 (match x.dst with
  | some d => !(y.looks.contains d) && y.dst != some d
  | none => true) &&
 (match y.dst with
  | some d => !(x.looks.contains d)
  | none => true)
def fast : Nat → List Inf → Bool
 | _, [] => true
 | k, x :: r => x.edges.all (fun e => decide (e < k)) && (r.all fun y => y.edges.contains k || apartI x y) && fast (k + 1) r
def Told (n k : Nat) (listed : Array Bool) : Prop := listed.size = n ∧ ∀ j b, j < n → listed.getD j b = decide (j < k)
theorem told_next {n k : Nat} {listed : Array Bool} (h : Told n k listed) (hk : k < n) : Told n (k + 1) (listed.setIfInBounds k true) := by
 refine ⟨by simp [h.1], fun j b hj => ?_⟩
 by_cases he : k = j
 ·subst he
  rw [Array.getD_eq_getD_getElem?, Array.getElem?_setIfInBounds]
  simp [h.1, hj]
 ·have h2 := h.2 j b hj
  rw [Array.getD_eq_getD_getElem?] at h2 ⊢
  rw [Array.getElem?_setIfInBounds, if_neg he, h2]
  by_cases hjk : j < k
  ·simp [hjk]; omega
  ·simp [hjk]; omega
theorem lexFrom_fast (l : List Oper) : ∀ (fuel k : Nat) (listed : Array Bool), k + fuel = l.length → Told l.length k listed → fast k ((l.map (infOf l.toArray)).drop k) = true → Region.lexFrom .any l.toArray fuel k listed = true
 | 0, k, listed, hk, ht, hf => by
  unfold Region.lexFrom
  rw [List.isEmpty_iff]
  unfold Region.ready
  rw [List.filter_eq_nil_iff]
  intro j hj
  have hjn : j < l.length := by simpa using hj
  have : listed.getD j true = true := by rw [ht.2 j true hjn]; simp; omega
  simp [this]
 | fuel + 1, k, listed, hk, ht, hf => by
  have hkn : k < l.length := by omega
  have hd : (l.map (infOf l.toArray)).drop k = infOf l.toArray (l[k]'hkn) :: (l.map (infOf l.toArray)).drop (k + 1) := by
   rw [List.drop_eq_getElem_cons (by simpa using hkn)]
   simp
  rw [hd] at hf
  unfold fast at hf
  simp only [Bool.and_eq_true] at hf
  obtain ⟨⟨h1, h2⟩, h3⟩ := hf
  have hget : l.toArray[k]? = some (l[k]'hkn) := by simp [hkn]
  unfold Region.lexFrom
  simp only [Bool.and_eq_true]
  refine ⟨⟨?_, ?_⟩, lexFrom_fast l fuel (k + 1) _ (by omega) (told_next ht hkn) h3⟩
  ·rw [List.contains_iff_mem]
   unfold Region.ready
   rw [List.mem_filter]
   refine ⟨by simpa using hkn, ?_⟩
   have : listed.getD k true = false := by rw [ht.2 k true hkn]; simp
   rw [this, hget]
   simp only [Bool.not_false, Bool.true_and, Option.map_some, Option.getD_some]
   rw [Array.all_eq_true_iff_forall_mem]
   intro e he
   by_cases hb : Region.binds .any e = true
   ·have hm : e.on ∈ (infOf l.toArray (l[k]'hkn)).edges := by
     unfold infOf
     simp only [List.mem_map, List.mem_filter]
     exact ⟨e, ⟨by simpa using he, hb⟩, rfl⟩
    have hlt : e.on < k := by
     have := (List.all_eq_true.mp h1) _ hm
     simpa using this
    have : listed.getD e.on false = true := by rw [ht.2 e.on false (by omega)]; simpa using hlt
    rw [this]
    simp
   ·simp [hb]
  ·unfold Region.free
   rw [hget]
   simp only [List.all_eq_true, List.mem_range]
   intro j hj
   have hjn : j < l.length := by simpa using hj
   by_cases hjk : j = k
   ·simp [hjk]
   ·by_cases hlt : j < k
    ·have : listed.getD j true = true := by rw [ht.2 j true hjn]; simpa using hlt
     simp [this]
    ·have hgj : l.toArray[j]? = some (l[j]'hjn) := by simp [hjn]
     rw [hgj]
     have hm : infOf l.toArray (l[j]'hjn) ∈ (l.map (infOf l.toArray)).drop (k + 1) := by
      rw [List.mem_drop_iff_getElem]
      refine ⟨j - (k + 1), by simp; omega, ?_⟩
      simp only [List.getElem_map]
      congr 1
      congr 1
      omega
     have h4 := (List.all_eq_true.mp h2) _ hm
     simp only [Bool.or_eq_true] at h4 ⊢
     rcases h4 with h5 | h5
     ·right; left
      rw [List.contains_iff_mem] at h5
      unfold infOf at h5
      simp only [List.mem_map, List.mem_filter] at h5
      obtain ⟨e, ⟨he, hb⟩, ho⟩ := h5
      rw [Array.any_eq_true']
      exact ⟨e, by simpa using he, by simp [hb, ho]⟩
     ·right; right
      exact h5
theorem lexB_fast {l : List Oper} {m : List Inf} (hm : l.map (infOf l.toArray) = m) (hs : Region.noSelect l.toArray = true) (hf : fast 0 m = true) : Region.lexB .any l.toArray = true := by
 unfold Region.lexB
 rw [hs, Bool.true_and]
 refine lexFrom_fast l _ 0 _ (by simp) ⟨by simp, fun j b hj => ?_⟩ (by simpa [hm] using hf)
 simp [hj]
/-- A region that draws and only reads, its order checked quickly. -/
theorem CG.quietF {P : Program} {Q : Exit → Act → World → Prop} {N : Nat} {w : World} {env : Env} {id : Nat} {l : List Oper} {m : List Inf} (hp : P.follows .mixedOrders = true) (hm : l.map (infOf l.toArray) = m) (hs : Region.noSelect l.toArray = true) (hf : fast 0 m = true) (h : GQ P l.toArray Q N w l env) : CG P (.region id l.toArray true) Q N env w :=
 CG.quiet hp (lexB_fast hm hs hf) h
end Go.Proofs.Ytkjefnlhhfpllaa.E
namespace Go.Proofs.Ytkjefnlhhfpllaa.E
open Go.RowKit Go.Proofs.YtkjefnlhhfpllaaW.PrintWords Go.Proofs.YtkjefnlhhfpllaaW.PrintMore
set_option linter.unusedVariables false
def GH (P : Program) (ops : Array Oper) (Q : Exit → Act → World → Prop) (N : Nat) (S : World → Prop) (fuel : Nat) (listed : Array Bool) (env : Env) (w : World) : Prop := ∀ a, Holds N a env → S w → wpAnyH P .any ops Q S fuel listed a w
/-- One operation of those that may come up. -/
def GO (P : Program) (ops : Array Oper) (Q : Exit → Act → World → Prop) (N : Nat) (S : World → Prop) (fuel : Nat) (listed : Array Bool) (env : Env) (w : World) (o : Oper) : Prop :=
 ∀ a, Holds N a env → S w → ∀ K : Act → World → Prop, (∀ a w, S w → (S w → wpAnyH P .any ops Q S fuel listed a w) → K a w) → if Region.wanted o (yielded ops a.tmps) = true then Oper.wp P o a w K Q else K (a.put o.dst undef) w
def GHs (P : Program) (ops : Array Oper) (Q : Exit → Act → World → Prop) (N : Nat) (S : World → Prop) (fuel : Nat) (listed : Array Bool) (env : Env) (w : World) (rs : List Nat) : Prop := ∀ a, Holds N a env → S w → AllReadyH P .any ops Q S fuel listed a w rs
/-- A panic is told alike, whatever the frame. -/
def Calm (Q : Exit → Act → World → Prop) : Prop := ∀ c (a : Act) (d : Option Tmp) (v : Value) w, Q (.panic c) (a.put d v) w → Q (.panic c) a w
section
variable {P : Program} {ops : Array Oper} {Q : Exit → Act → World → Prop} {N : Nat} {S : World → Prop} {fuel : Nat} {listed : Array Bool} {env : Env} {w : World} {o : Oper}
theorem CG.held {id : Nat} (S : World → Prop) (hm : P.follows .mixedOrders = true) (hS : S w.drew) (h : GH P ops Q N S ops.size (Array.replicate ops.size false) env w.drew) : CG P (.region id ops true) Q N env w :=
 fun a ha => wp_region_held_drew hm hS fun hs => h a ha hs
theorem GH.take {i n : Nat} {v : Value} (hi : ops[i]? = some o) (hs : Region.noSelect ops = true) (hf : Region.free .any ops listed i = true) (hr : (Region.ready .any ops listed).contains i = true) (hQ : Calm Q) (hd : o.dst = some n) (hn : Nat.blt n N = true)
  (hw : want ops env o = some true) (hy : ∀ w', S w' → Runs P N env o w' v) (h : GH P ops Q N S fuel (listed.setIfInBounds i true) ((n, v) :: env) w) : GH P ops Q N S (fuel + 1) listed env w := by
 intro a ha hS
 refine wpAnyH_take hi hs hf hr (fun c a w => hQ c a _ _ w) (.inl ⟨wanted_of ha hw, fun w' hw' => hy w' hw' a w' ha rfl⟩) hS ?_
 rw [hd]
 exact h _ (ha.put v (by simpa [Nat.blt_eq] using hn)) hS
theorem GH.pass {i n : Nat} (hi : ops[i]? = some o) (hs : Region.noSelect ops = true) (hf : Region.free .any ops listed i = true) (hr : (Region.ready .any ops listed).contains i = true) (hQ : Calm Q) (hd : o.dst = some n) (hn : Nat.blt n N = true)
  (hw : want ops env o = some false) (h : GH P ops Q N S fuel (listed.setIfInBounds i true) ((n, undef) :: env) w) : GH P ops Q N S (fuel + 1) listed env w := by
 intro a ha hS
 refine wpAnyH_take hi hs hf hr (fun c a w => hQ c a _ _ w) (.inr ⟨wanted_of ha hw, rfl⟩) hS ?_
 rw [hd]
 exact h _ (ha.put undef (by simpa [Nat.blt_eq] using hn)) hS
theorem GH.all {rs : List Nat} (hr : Region.ready .any ops listed = rs) (hne : rs ≠ []) (h : GHs P ops Q N S fuel listed env w rs) : GH P ops Q N S (fuel + 1) listed env w :=
 fun a ha hS => wpAnyH_ready hr hne (h a ha hS)
theorem GHs.nil : GHs P ops Q N S fuel listed env w [] := fun a ha hS => AllReadyH.nil
theorem GHs.cons {i : Nat} {rs : List Nat} (ho : ops[i]? = some o) (h : GO P ops Q N S fuel (listed.setIfInBounds i true) env w o) (hs : GHs P ops Q N S fuel listed env w rs) : GHs P ops Q N S fuel listed env w (i :: rs) :=
 fun a ha hS => AllReadyH.cons ho (fun K hK => h a ha hS K hK.out) (hs a ha hS)
theorem GH.done (hr : Region.ready .any ops listed = []) (h : QG Q .normal N env w) : GH P ops Q N S fuel listed env w := fun a ha _ => wpAnyH_done hr (h a ha) fuel
/-- Any law of the kit's for one step of a region that draws. -/
theorem GO.step {n : Nat} (hd : o.dst = some n) (hn : Nat.blt n N = true)
  (hs : ∀ a, Holds N a env → ∀ K : Act → World → Prop, (∀ v w1, S w1 → GH P ops Q N S fuel listed ((n, v) :: env) w1 → K (a.put o.dst v) w1) → if Region.wanted o (yielded ops a.tmps) = true then Oper.wp P o a w K Q else K (a.put o.dst undef) w) : GO P ops Q N S fuel listed env w o := by
 intro a ha hS K hK
 refine hs a ha K fun v w1 h1 h2 => hK _ _ h1 fun h3 => ?_
 rw [hd]
 exact h2 _ (ha.put v (by simpa [Nat.blt_eq] using hn)) h3
theorem GO.event {n : Nat} {v : Value} {w1 : World} (hd : o.dst = some n) (hn : Nat.blt n N = true) (hw : want ops env o = some true) (hr : ∀ a, Holds N a env → (execOp a.eval o).run P w = .ok (.value v) w1) (hS1 : S w1) (h : GH P ops Q N S fuel listed ((n, v) :: env) w1) : GO P ops Q N S fuel listed env w o := by
 refine GO.step hd hn fun a ha K hK => ?_
 rw [if_pos (wanted_of ha hw)]
 unfold Oper.wp
 rw [hr a ha]
 exact hK _ _ hS1 h
end
end Go.Proofs.Ytkjefnlhhfpllaa.E
namespace Go.Proofs.Ytkjefnlhhfpllaa.E
open Go.RowKit Go.Proofs.YtkjefnlhhfpllaaW.PrintWords Go.Proofs.YtkjefnlhhfpllaaW.PrintMore
open Go.Proofs.Ytkjefnlhhfpllaa.T
set_option linter.unusedVariables false
set_option linter.unusedSimpArgs false
/-- One operation is carried out: what follows is told of its value and the world behind it. -/
def ST (P : Program) (Q : Exit → Act → World → Prop) (N : Nat) (env : Env) (w : World) (o : Oper) (K : Value → World → Prop) : Prop :=
 ∀ a, Holds N a env → ∀ Kc : Act → World → Prop, (∀ v w1, K v w1 → Kc (a.put o.dst v) w1) → Oper.wp P o a w Kc Q
section
variable {P : Program} {ops : Array Oper} {Q : Exit → Act → World → Prop} {N : Nat} {w : World} {rest : List Oper} {env : Env} {o : Oper} {K : Value → World → Prop}
theorem GL.st {n : Nat} (hd : o.dst = some n) (hn : Nat.blt n N = true) (hw : want ops env o = some true) (h : ST P Q N env w o (fun v w1 => GL P ops Q N w1 rest ((n, v) :: env))) : GL P ops Q N w (o :: rest) env := by
 intro a ha
 refine BigFrame.wpList_want (wanted_of ha hw) fun Kc hK => h a ha Kc fun v w1 h1 => hK _ _ ?_
 rw [hd]
 exact h1 _ (ha.put v (by simpa [Nat.blt_eq] using hn))
theorem GL.sn (hd : o.dst = none) (hw : want ops env o = some true) (h : ST P Q N env w o (fun v w1 => GL P ops Q N w1 rest env)) : GL P ops Q N w (o :: rest) env := by
 intro a ha
 refine BigFrame.wpList_want (wanted_of ha hw) fun Kc hK => h a ha Kc fun v w1 h1 => hK _ _ ?_
 rw [hd]
 exact h1 _ ha
variable {S : World → Prop} {fuel : Nat} {listed : Array Bool}
theorem GO.st {n : Nat} (hd : o.dst = some n) (hn : Nat.blt n N = true) (hw : want ops env o = some true) (h : ST P Q N env w o (fun v w1 => S w1 ∧ GH P ops Q N S fuel listed ((n, v) :: env) w1)) : GO P ops Q N S fuel listed env w o := by
 intro a ha hS Kc hK
 rw [if_pos (wanted_of ha hw)]
 refine h a ha Kc fun v w1 h1 => hK _ _ h1.1 fun _ => ?_
 rw [hd]
 exact h1.2 _ (ha.put v (by simpa [Nat.blt_eq] using hn)) h1.1
theorem GO.sn (hd : o.dst = none) (hw : want ops env o = some true) (h : ST P Q N env w o (fun v w1 => S w1 ∧ GH P ops Q N S fuel listed env w1)) : GO P ops Q N S fuel listed env w o := by
 intro a ha hS Kc hK
 rw [if_pos (wanted_of ha hw)]
 refine h a ha Kc fun v w1 h1 => hK _ _ h1.1 fun _ => ?_
 rw [hd]
 exact h1.2 _ ha h1.1
/-- The one operation that can come next. -/
theorem GH.one {i : Nat} (hr : Region.ready .any ops listed = [i]) (ho : ops[i]? = some o) (h : GO P ops Q N S fuel (listed.setIfInBounds i true) env w o) : GH P ops Q N S (fuel + 1) listed env w :=
 GH.all hr (by simp) (GHs.cons ho h GHs.nil)
theorem ST.ev {v : Value} {w1 : World} (hr : ∀ a, Holds N a env → (execOp a.eval o).run P w = .ok (.value v) w1) (h : K v w1) : ST P Q N env w o K := by
 intro a ha Kc hK
 unfold Oper.wp
 rw [hr a ha]
 exact hK _ _ h
theorem ST.reads {v : Value} (hr : Runs P N env o w v) (h : K v w) : ST P Q N env w o K := ST.ev (fun a ha => hr a w ha rfl) h
theorem ST.box {t : TypeId} {x : Operand} {cs : Array Value} (ho : o.op = .box t x) (hx : Ev env x (.agg cs))
  (h : ∀ g w1, g = w.heap.size → w1.heap[g]? = some (.cells cs t (0, 0)) → Below w.heap.size w w1 → K (.pointer (some ⟨g, 0, none⟩)) w1) : ST P Q N env w o K := by
 refine ST.ev (v := .pointer (some ⟨w.heap.size, 0, none⟩)) (w1 := w.alloc (.cells cs t (0, 0))) (fun a ha => ?_) (h _ _ rfl (blk_new w _) (below_alloc (Below.refl _ _) _))
 unfold execOp; rw [ho]; simp only []; rw [ha.eval hx]
 simp [go_sem]
theorem ST.alloc {t : TypeId} {cs : Array Value} (ho : o.op = .alloc t) (hz : (P.info? t).map (·.zero) = some (some (.agg cs)))
  (h : ∀ g w1, g = w.heap.size → w1.heap[g]? = some (.cells cs t (0, 0)) → Below w.heap.size w w1 → K (.pointer (some ⟨g, 0, none⟩)) w1) : ST P Q N env w o K := by
 refine ST.ev (v := .pointer (some ⟨w.heap.size, 0, none⟩)) (w1 := w.alloc (.cells cs t (0, 0))) (fun a ha => ?_) (h _ _ rfl (blk_new w _) (below_alloc (Below.refl _ _) _))
 cases hq : P.info? t with
 | none => simp [hq] at hz
 | some i =>
  have hi : i.zero = some (.agg cs) := by simpa [hq] using hz
  unfold execOp; rw [ho]; simp only []
  simp [go_sem, zeroValue, typeInfo, hq, hi]
theorem ST.call {f : FuncId} {xs : List Operand} {ts : Array TypeId} {vs : List Value}
  (ho : o.op = .call { callee := .value (.func f), args := xs.toArray, argTypes := ts }) (hf : ∀ args W, (callFunc f args).run P W = .ok (.enter f args) W) (hx : EvL env xs vs)
  (hc : Calls P f vs.toArray w (fun e w' => ∃ v, e = .returned v ∧ K v w')) : ST P Q N env w o K := by
 intro a ha Kc hK
 have hr : (execOp a.eval o).run P w = .ok (.enter f vs.toArray) w := by
  have e := ha.evalL hx
  have ef : a.eval (.func f) = .func (.func f) #[] #[] := rfl
  generalize a.eval = ρ at e ef ⊢
  unfold execOp; rw [ho]
  simp [go_sem, e, ef, hf]
 unfold Oper.wp
 rw [hr]
 refine hc.mono ?_
 rintro e w' ⟨v, rfl, h⟩
 exact hK _ _ h
/-- One cell is written. -/
theorem ST.store {ty : TypeId} {x y : Operand} {b i : Nat} {k : IntKind} {n : Int} {cs cs' : Array Value} {t : TypeId} (ho : o.op = .store ty x y) (hz : Sized P ty) (hz1 : P.cellsOf ty = 1) (hx : Ev env x (.pointer (some ⟨b, i, none⟩))) (hy : Ev env y (.int k n))
  (hb : w.heap[b]? = some (.cells cs t (0, 0))) (hi : Nat.blt i cs.size = true) (hcs : cs.setIfInBounds i (.int k n) = cs') (h : ∀ w1, w1.heap[b]? = some (.cells cs' t (0, 0)) → w.grownBy w1 (some b) → K undef w1) : ST P Q N env w o K := by
 intro a ha Kc hK
 have hi' : i < cs.size := by simpa [Nat.blt_eq] using hi
 have h1 : w.cell? ⟨b, i, none⟩ = some cs[i] := by rw [blk_cell hb, Array.getElem?_eq_getElem hi']
 have h2 : w.frozen? ⟨b, i, none⟩ = false := blk_frozen hb i
 have hr : (execOp a.eval o).run P w = .ok .skip (w.setCell ⟨b, i, none⟩ (.int k n)) := by
  unfold execOp; rw [ho]; simp only []; rw [ha.eval hx, ha.eval hy]
  obtain ⟨inf, q1, q2⟩ := hz
  simp [go_sem, run_sizeOf w q1, hz1, h1, h2]
 unfold Oper.wp
 rw [hr]
 exact hK undef _ (h _ (by rw [blk_set hb, hcs]) (gb_set (World.grownBy.refl w _) (.inr rfl) _))
/-- A whole struct is written into a variable of its own. -/
theorem ST.store_whole {ty : TypeId} {x y : Operand} {b : Nat} {cells old : Array Value} {t : TypeId} (hd : o.dst = none) (hg : o.guard = none) (ho : o.op = .store ty x y) (hx : Ev env x (.pointer (some ⟨b, 0, none⟩))) (hy : Ev env y (.agg cells))
  (hb : w.heap[b]? = some (.cells old t (0, 0))) (hs : old.size = cells.size) (hi : (P.info? ty).map (·.size) = some cells.size) (h1 : cells.all (·.oneCell') = true)
  (h : ∀ w1, w1.heap[b]? = some (.cells cells t (0, 0)) → w.grownBy w1 (some b) → GL P ops Q N w1 rest env) : GL P ops Q N w (o :: rest) env := GL.store_whole hd hg ho hx hy hb hs hi h1 h
def EvP (env : Env) : List (Nat × Operand) → List (Nat × Value) → Prop
 | [], [] => True
 | x :: xs, v :: vs => (x.1 = v.1 ∧ Ev env x.2 v.2) ∧ EvP env xs vs
 | _, _ => False
theorem epn {env : Env} : EvP env [] [] := trivial
theorem epc {env : Env} {i : Nat} {x : Operand} {v : Value} {xs : List (Nat × Operand)} {vs : List (Nat × Value)} (h : Ev env x v) (k : EvP env xs vs) : EvP env ((i, x) :: xs) ((i, v) :: vs) := ⟨⟨rfl, h⟩, k⟩
theorem Holds.evalP {a : Act} (h : Holds N a env) : ∀ {xs : List (Nat × Operand)} {vs : List (Nat × Value)}, EvP env xs vs → xs.map (fun p => (p.1, a.eval p.2)) = vs
 | [], [], _ => rfl
 | x :: xs, v :: vs, e => by rw [List.map_cons, h.eval e.1.2, e.1.1, Holds.evalP h e.2]
/-- A struct is built. -/
theorem Runs.build {t : TypeId} {xs : List (Nat × Operand)} {vs : List (Nat × Value)} {v : Value} (ho : o.op = .build t xs.toArray) (hx : EvP env xs vs) (hr : ∀ W, (Instr.build t vs.toArray).run P W = .ok v W) : Runs P N env o w v := fun a w' ha hw => by
 have e := ha.evalP hx
 have hr' := hr w'
 generalize a.eval = ρ at e ⊢
 unfold execOp; rw [ho]
 simp only [List.map_toArray, e]
 rw [Sem.run_bind, hr']; rfl
/-- A slice of one is made. -/
theorem ST.lit {t : TypeId} {m : Nat} {xs : List (Nat × Operand)} {vs : List (Nat × Value)} {e : TypeId} {cs : Array Value} (ho : o.op = .buildSlice t m xs.toArray) (hx : EvP env xs vs)
  (hr : ∀ W, (Instr.buildSlice t m vs.toArray).run P W = .ok (.slice (some ⟨W.heap.size, 0, none⟩) m m) (W.alloc (.cells cs e (0, 0)))) (h : K (.slice (some ⟨w.heap.size, 0, none⟩) m m) (w.alloc (.cells cs e (0, 0)))) : ST P Q N env w o K := by
 refine ST.ev (fun a ha => ?_) h
 have e := ha.evalP hx
 have hr' := hr w
 generalize a.eval = ρ at e ⊢
 unfold execOp; rw [ho]
 simp only [List.map_toArray, e]
 rw [Sem.run_bind, hr']; rfl
/-- append(v, x), behind the making of the variadic's slice. -/
theorem ST.append {α : Type} (d : Kd α) {w0 : World} (base : Nat) {W : World} {s x : Operand} {t e : TypeId} {z : Value} {bytes : Nat}
  (ho : o.op = .call { callee := .builtin .append, args := #[s, x], argTypes := #[t, t] })
  (ht : P.underlying t = some (.slice e)) (hinfo : (P.info? e).map (fun i => (i.zero, i.size, i.bytes)) = some (some z, d.sz, bytes)) (hz : z.cells.size = d.sz) (hs0 : 0 < d.sz) (hb0 : 0 < bytes)
  {v : Value} {xs : List α} (p : α) {cs : List Value} {ok : Nat → Prop} (hs : Ev env s v) (hx : Ev env x (.slice (some ⟨W.heap.size, 0, none⟩) 1 1)) (hp : d.M W base (fun _ => False) p cs) (hfresh : ∀ k, W.heap.size ≤ k → ok k)
  (HO : d.R e W base ok v xs) (HB : Below base w0 W) (hbase : base ≤ W.heap.size) (hl : (xs.length + 1) * bytes ≤ 140737488355328)
  (h : ∀ v1 w1, d.R e w1 base ok v1 (xs ++ [p]) → Below base w0 w1 → W.grownBy w1 v.ownBlock → K v1 w1) : ST P Q N env (W.alloc (.cells cs.toArray e)) o K := by
 intro a ha Kc hK
 have h0 : Region.wanted { o with guard := none } (yielded #[] a.tmps) = true := rfl
 have := Kd.R_append_step (P := P) (ops := #[]) (o := { o with guard := none }) (a := a) (Q := Q) (Kc := Kc) d base h0 s x t e z bytes ho ht hinfo hz hs0 hb0 v xs p cs ok (fun _ => False) (ha.eval hs) (ha.eval hx) hp (fun _ hk => hk.elim) hfresh HO HB hbase hl (fun v1 w1 h1 h2 h3 _ => hK _ _ (h v1 w1 h1 h2 h3))
 rw [if_pos h0] at this
 exact this
theorem Runs.max {x y : Operand} {ts : Array TypeId} {k : IntKind} {m n r : Int} (ho : o.op = .call { callee := .builtin .max, args := #[x, y], argTypes := ts }) (hx : Ev env x (.int k m)) (hy : Ev env y (.int k n)) (hr : mx m n = r) : Runs P N env o w (.int k r) := fun a w' ha hw => by
 have e1 := ha.eval hx
 have e2 := ha.eval hy
 generalize a.eval = ρ at e1 e2 ⊢
 subst hr
 unfold execOp; rw [ho]
 simp [go_sem, e1, e2, max_two, max2_int, mx]
theorem Runs.min {x y : Operand} {ts : Array TypeId} {k : IntKind} {m n r : Int} (ho : o.op = .call { callee := .builtin .min, args := #[x, y], argTypes := ts }) (hx : Ev env x (.int k m)) (hy : Ev env y (.int k n)) (hr : mn m n = r) : Runs P N env o w (.int k r) := fun a w' ha hw => by
 have e1 := ha.eval hx
 have e2 := ha.eval hy
 generalize a.eval = ρ at e1 e2 ⊢
 subst hr
 unfold execOp; rw [ho]
 simp [go_sem, e1, e2, min_two, min2_int, mn]
theorem Runs.quo {t u : TypeId} {x y : Operand} {k : IntKind} {m n r : Int} (ho : o.op = .binOp .quo t x y u) (hx : Ev env x (.int k m)) (hy : Ev env y (.int k n)) (h0 : n ≠ 0) (hb : k.wrap (m.tdiv n) = r) : Runs P N env o w (.int k r) := fun a w' ha hw => by
 unfold execOp; rw [ho]; simp only []; rw [ha.eval hx, ha.eval hy]
 subst hb
 simp [go_sem, h0]
end
end Go.Proofs.Ytkjefnlhhfpllaa.E
namespace Go.Proofs.Ytkjefnlhhfpllaa.E
open Go.RowKit Go.Proofs.YtkjefnlhhfpllaaW.PrintWords Go.Proofs.YtkjefnlhhfpllaaW.PrintMore
open Go.Proofs.Ytkjefnlhhfpllaa.T
set_option linter.unusedVariables false
set_option linter.unusedSimpArgs false
section
variable {P : Program} {ops : Array Oper} {Q : Exit → Act → World → Prop} {N : Nat} {w : World} {rest : List Oper} {env : Env} {o : Oper} {S : World → Prop} {fuel : Nat} {listed : Array Bool}
theorem GL.cmp {p : Prop} [Decidable p] {n : Nat} (hd : o.dst = some n) (hn : Nat.blt n N = true) (hw : want ops env o = some true) (hr : ∀ b, decide p = b → Runs P N env o w (.bool b))
  (ht : p → GL P ops Q N w rest ((n, .bool true) :: env)) (hf : ¬ p → GL P ops Q N w rest ((n, .bool false) :: env)) : GL P ops Q N w (o :: rest) env := by
 by_cases h : p
 ·exact GL.run hd hn hw (hr _ (decide_eq_true h)) (ht h)
 ·exact GL.run hd hn hw (hr _ (decide_eq_false h)) (hf h)
theorem GL.cmpn {p : Prop} [Decidable p] {n : Nat} (hd : o.dst = some n) (hn : Nat.blt n N = true) (hw : want ops env o = some true) (hr : ∀ b, (!decide p) = b → Runs P N env o w (.bool b))
  (ht : ¬ p → GL P ops Q N w rest ((n, .bool true) :: env)) (hf : p → GL P ops Q N w rest ((n, .bool false) :: env)) : GL P ops Q N w (o :: rest) env := by
 by_cases h : p
 ·exact GL.run hd hn hw (hr _ (by simp [h])) (hf h)
 ·exact GL.run hd hn hw (hr _ (by simp [h])) (ht h)
theorem GQ.cmp {p : Prop} [Decidable p] {n : Nat} (hd : o.dst = some n) (hn : Nat.blt n N = true) (hw : want ops env o = some true) (hr : ∀ b, decide p = b → Runs P N env o w (.bool b))
  (ht : p → GQ P ops Q N w rest ((n, .bool true) :: env)) (hf : ¬ p → GQ P ops Q N w rest ((n, .bool false) :: env)) : GQ P ops Q N w (o :: rest) env := by
 by_cases h : p
 ·exact GQ.run hd hn hw (hr _ (decide_eq_true h)) (ht h)
 ·exact GQ.run hd hn hw (hr _ (decide_eq_false h)) (hf h)
theorem GQ.cmpn {p : Prop} [Decidable p] {n : Nat} (hd : o.dst = some n) (hn : Nat.blt n N = true) (hw : want ops env o = some true) (hr : ∀ b, (!decide p) = b → Runs P N env o w (.bool b))
  (ht : ¬ p → GQ P ops Q N w rest ((n, .bool true) :: env)) (hf : p → GQ P ops Q N w rest ((n, .bool false) :: env)) : GQ P ops Q N w (o :: rest) env := by
 by_cases h : p
 ·exact GQ.run hd hn hw (hr _ (by simp [h])) (hf h)
 ·exact GQ.run hd hn hw (hr _ (by simp [h])) (ht h)
theorem GH.tk {i n : Nat} {v : Value} (hi : ops[i]? = some o) (hs : Region.noSelect ops = true) (hf : Region.free .any ops listed i = true) (hr : (Region.ready .any ops listed).contains i = true) (hd : o.dst = some n) (hn : Nat.blt n N = true)
  (hw : want ops env o = some true) (hQ : Calm Q) (hy : ∀ w', S w' → Runs P N env o w' v) (h : GH P ops Q N S fuel (listed.setIfInBounds i true) ((n, v) :: env) w) : GH P ops Q N S (fuel + 1) listed env w := GH.take hi hs hf hr hQ hd hn hw hy h
theorem GH.cmp {p : Prop} [Decidable p] {i n : Nat} (hi : ops[i]? = some o) (hs : Region.noSelect ops = true) (hf : Region.free .any ops listed i = true) (hr : (Region.ready .any ops listed).contains i = true) (hQ : Calm Q) (hd : o.dst = some n) (hn : Nat.blt n N = true)
  (hw : want ops env o = some true) (hy : ∀ b, decide p = b → ∀ w', S w' → Runs P N env o w' (.bool b)) (ht : p → GH P ops Q N S fuel (listed.setIfInBounds i true) ((n, .bool true) :: env) w) (hff : ¬ p → GH P ops Q N S fuel (listed.setIfInBounds i true) ((n, .bool false) :: env) w) : GH P ops Q N S (fuel + 1) listed env w := by
 by_cases h : p
 ·exact GH.take hi hs hf hr hQ hd hn hw (hy _ (decide_eq_true h)) (ht h)
 ·exact GH.take hi hs hf hr hQ hd hn hw (hy _ (decide_eq_false h)) (hff h)
theorem GH.cmpn {p : Prop} [Decidable p] {i n : Nat} (hi : ops[i]? = some o) (hs : Region.noSelect ops = true) (hf : Region.free .any ops listed i = true) (hr : (Region.ready .any ops listed).contains i = true) (hQ : Calm Q) (hd : o.dst = some n) (hn : Nat.blt n N = true)
  (hw : want ops env o = some true) (hy : ∀ b, (!decide p) = b → ∀ w', S w' → Runs P N env o w' (.bool b)) (ht : ¬ p → GH P ops Q N S fuel (listed.setIfInBounds i true) ((n, .bool true) :: env) w) (hff : p → GH P ops Q N S fuel (listed.setIfInBounds i true) ((n, .bool false) :: env) w) : GH P ops Q N S (fuel + 1) listed env w := by
 by_cases h : p
 ·exact GH.take hi hs hf hr hQ hd hn hw (hy _ (by simp [h])) (hff h)
 ·exact GH.take hi hs hf hr hQ hd hn hw (hy _ (by simp [h])) (ht h)
theorem nes {a b : Nat} (h : a ≠ b) : some a ≠ some b := fun e => h (Option.some.inj e)
theorem nen {a : Nat} : some a ≠ none := fun e => nomatch e
theorem gbD {row : Option Nat} : w.grownBy w.drew row := ⟨rfl, rfl, rfl, Nat.le_refl _, fun _ _ _ => rfl⟩
theorem gbB {w1 : World} {row : Option Nat} (h : Below w.heap.size w w1) : w.grownBy w1 row := ⟨h.os, h.tape, h.output, h.size, fun k hk _ => h.block k hk⟩
theorem belowG {w1 : World} (h : w.grownBy w1 none) : Below w.heap.size w w1 := ⟨h.os, h.tape, h.output, h.size, fun k hk => h.block k hk (fun e => nomatch e)⟩
/-- What is there, behind a world that left all of this base as it was. -/
theorem below_own {w0 w1 : World} {g : Nat} (L : Below w0.heap.size w0 w) (hg : w0.heap.size ≤ g) (h : w.grownBy w1 (some g)) : Below w0.heap.size w0 w1 :=
 pw_below_grown L (some g) L.size h (by rintro k ⟨⟩; exact hg)
theorem CG.heldH {id : Nat} (row : Option Nat) (hm : P.follows .mixedOrders = true) (h : ∀ w1, Below w.heap.size w w1 → w1.grownBy w1 row → GH P ops Q N (fun W => w1.grownBy W row) ops.size (Array.replicate ops.size false) env w1) : CG P (.region id ops true) Q N env w :=
 CG.held _ hm (World.grownBy.refl _ _) (h _ (below_drew (Below.refl _ _)) (World.grownBy.refl _ _))
/-- The value at a place of a list. -/
def nth : List Value → Nat → Option Value
 | [], _ => none
 | x :: _, 0 => some x
 | _ :: r, n + 1 => nth r n
theorem nth_is : ∀ (l : List Value) (i : Nat), nth l i = l[i]?
 | [], i => by simp [nth]
 | x :: r, 0 => rfl
 | x :: r, i + 1 => by simpa [nth] using nth_is r i
theorem blkc {b i : Nat} {cs : List Value} {t : TypeId} {v : Value} (hb : w.heap[b]? = some (.cells cs.toArray t (0, 0))) (hv : nth cs i = some v) : w.cell? ⟨b, i, none⟩ = some v := by
 rw [nth_is] at hv
 rw [blk_cell hb]
 simpa using hv
/-- A part of a variable. -/
theorem blks {g : Nat} {t : TypeId} {all cs : List Value} (hb : w.heap[g]? = some (.cells all.toArray t (0, 0))) (off : Nat) (hs : (all.drop off).take cs.length = cs) (j : Nat) (v : Value) (hv : cs[j]? = some v) : w.cell? ((onA ⟨g, 0, none⟩ off).add j) = some v := by
 have h1 : onA ⟨g, 0, none⟩ off = ⟨g, off, none⟩ := by cases off <;> simp [onA]
 rw [h1, Addr.add_mid, blk_cell hb]
 rw [← hs, List.getElem?_take] at hv
 split at hv
 ·rw [List.getElem?_drop] at hv
  simpa using hv
 ·simp at hv
theorem keeps {w1 : World} {row : Option Nat} {a : Addr} {v : Value} (hg : w.grownBy w1 row) (h : w.cell? a = some v) (hne : some a.block ≠ row) : w1.cell? a = some v := cell_grown hg h hne
theorem GQ.doneB (h : ∀ w1, Below w.heap.size w w1 → QG Q .normal N env w1) : GQ P ops Q N w [] env := GQ.done fun m => h _ (pw_below_drewN (Below.refl _ _) m)
/-- A loop with two ghosts. -/
theorem CG.loop2 {c : Code} {γ δ : Type} (E : γ → δ → Env) (R : γ → δ → World → Prop) (m : γ → δ → Nat) (g0 : γ) (d0 : δ) (h0 : Sub (E g0 d0) env) (hR : R g0 d0 w)
  (round : ∀ g d w', R g d w' → CG P c (Exit.then (fun a'' w'' => ∃ g' d', Holds N a'' (E g' d') ∧ R g' d' w'' ∧ m g' d' < m g d) Q) N (E g d) w') : CG P (.loop c) Q N env w := by
 refine CG.loop (γ := γ × δ) (fun p => E p.1 p.2) (fun p => R p.1 p.2) (fun p => m p.1 p.2) (g0, d0) h0 hR fun p w' h a ha => ?_
 refine wp_mono (round p.1 p.2 w' h a ha) ?_
 intro e a' w1 hq
 cases e <;> first | exact hq | (obtain ⟨g', d', h1⟩ := hq; exact ⟨(g', d'), h1⟩)
theorem QG.round2 {γ δ : Type} {E : γ → δ → Env} {R : γ → δ → World → Prop} {m : γ → δ → Nat} {g : γ} {d : δ} (g' : γ) (d' : δ) (h0 : Sub (E g' d') env) (hR : R g' d' w) (hm : m g' d' < m g d) :
  QG (Exit.then (fun a'' w'' => ∃ g' d', Holds N a'' (E g' d') ∧ R g' d' w'' ∧ m g' d' < m g d) Q) .normal N env w := fun a ha => ⟨g', d', ha.sub h0, hR, hm⟩
theorem ne_f {p : Prop} [Decidable p] (h : p) : (!decide p) = false := by simp [h]
theorem gb_own {w0 w1 : World} {row : Option Nat} {g : Nat} (h : w0.grownBy w row) (hg : w0.heap.size ≤ g) (k : w.grownBy w1 (some g)) : w0.grownBy w1 row :=
 ⟨k.os.trans h.os, k.tape.trans h.tape, k.output.trans h.output, Nat.le_trans h.size k.size, fun i hi hr => (k.block i (Nat.lt_of_lt_of_le hi h.size) (fun e => by have := Option.some.inj e; omega)).trans (h.block i hi hr)⟩
/-- The beginning of a slice. -/
theorem Runs.sliceTo {t e : TypeId} {x y : Operand} {p : Option Addr} {n c i : Nat} {k : IntKind} (ho : o.op = .slice t x none (some y) none) (hx : Ev env x (.slice p n c)) (hy : Ev env y (.int k i)) (hu : P.underlying t = some (.slice e)) (hz : Sized P e) (hi : (i : Int) ≤ c) : Runs P N env o w (.slice p i c) := fun a w' ha hw => by
 obtain ⟨inf, h1, h2⟩ := hz
 have e1 := ha.eval hx
 have e2 := ha.eval hy
 generalize a.eval = ρ at e1 e2 ⊢
 unfold execOp; rw [ho]
 have h3 : i ≤ c := by omega
 cases p <;> simp [go_sem, e1, e2, Instr.sliceAt, Instr.slice, Instr.sliceBounds, run_underlying hu, run_sizeOf w' h1, asIntOf, h3, Sem.run_bind]
/-- A struct, and another value, are returned. -/
theorem QG.result_ct {fn : Func} {R : Ending → World → Prop} {p u : Tmp} {ty t : TypeId} {g : Nat} {cs : Array Value} {d : TypeDesc} {x : Value} (hf : fn.results = #[.cell p ty, .tmp u]) (hp : look env p = some (.pointer (some ⟨g, 0, none⟩))) (hg : w.heap[g]? = some (.cells cs t (0, 0)))
  (hu : P.underlying ty = some d) (hd : (match d with | .struct _ | .array _ _ => true | _ => false) = true) (hi : (P.info? ty).map (·.size) = some cs.size) (hx : look env u = some x) (h : R (.returned (.tuple #[.agg cs, x])) w) : QG (bodyPost P fn R) .ret N env w := by
 intro a ha
 refine ⟨ha.defers, .tuple #[.agg cs, x], ?_, h⟩
 have e1 : a.tmps.getD p undef = .pointer (some ⟨g, 0, none⟩) := ha.eval (x := .tmp p) hp
 have e2 : a.tmps.getD u undef = x := ha.eval (x := .tmp u) hx
 rw [results_ct hf a.tmps w g t cs (0, 0) d e1 hg hu hd hi, e2]
theorem QG.result_c {fn : Func} {R : Ending → World → Prop} {p : Tmp} {ty t : TypeId} {g : Nat} {cs : Array Value} {d : TypeDesc} (hf : fn.results = #[.cell p ty]) (hp : look env p = some (.pointer (some ⟨g, 0, none⟩))) (hg : w.heap[g]? = some (.cells cs t (0, 0)))
  (hu : P.underlying ty = some d) (hd : (match d with | .struct _ | .array _ _ => true | _ => false) = true) (hi : (P.info? ty).map (·.size) = some cs.size) (h : R (.returned (.agg cs)) w) : QG (bodyPost P fn R) .ret N env w := by
 intro a ha
 refine ⟨ha.defers, .agg cs, ?_, h⟩
 have e1 : a.tmps.getD p undef = .pointer (some ⟨g, 0, none⟩) := ha.eval (x := .tmp p) hp
 have hp' : a.tmps[p]?.getD undef = .pointer (some ⟨g, 0, none⟩) := by simpa using e1
 simp [results, hf, hp', asAddr, run_loadVar_row w g t ty cs (0, 0) d hg hu hd hi]
theorem Runs.neqv {t u : TypeId} {x y : Operand} {vx vy : Value} {b r : Bool} (ho : o.op = .binOp .neq t x y u) (hx : Ev env x vx) (hy : Ev env y vy) (hs : binOp .neq t vx vy = (do pure (.bool (!(← Op.equal t vx vy))))) (hg : ∀ x y W, (eqGuard .neq t x y vx vy).run P W = .ok () W) (he : ∀ W, (Op.equal t vx vy).run P W = .ok b W) (hr : (!b) = r) : Runs P N env o w (.bool r) := fun a w' ha hw => by
 unfold execOp; rw [ho]; simp only []; rw [ha.eval hx, ha.eval hy, hs]
 simp only [bind_assoc, pure_bind]
 rw [Sem.run_bind, hg _ _ w']
 show Sem.run P _ w' = _
 rw [Sem.run_bind, he w']
 subst hr
 rfl
theorem Runs.eqlv {t u : TypeId} {x y : Operand} {vx vy : Value} {b : Bool} (ho : o.op = .binOp .eql t x y u) (hx : Ev env x vx) (hy : Ev env y vy) (hs : binOp .eql t vx vy = (do pure (.bool (← Op.equal t vx vy)))) (hg : ∀ x y W, (eqGuard .eql t x y vx vy).run P W = .ok () W) (he : ∀ W, (Op.equal t vx vy).run P W = .ok b W) : Runs P N env o w (.bool b) := fun a w' ha hw => by
 unfold execOp; rw [ho]; simp only []; rw [ha.eval hx, ha.eval hy, hs]
 simp only [bind_assoc, pure_bind]
 rw [Sem.run_bind, hg _ _ w']
 show Sem.run P _ w' = _
 rw [Sem.run_bind, he w']
 rfl
theorem Runs.indexAddrA {t e : TypeId} {x y : Operand} {A : Option Addr} {p : Addr} {n c : Nat} {k : IntKind} {i : Nat} {sz : Nat} {q : Addr} (ho : o.op = .indexAddr t x y) (hx : Ev env x (.slice A n c)) (hy : Ev env y (.int k i)) (hu : P.underlying t = some (.slice e)) (hz : Sized P e) (hs : P.cellsOf e = sz) (hl : (i : Int) < n) (hA : A = some p) (hq : p.add (i * sz) = q) : Runs P N env o w (.pointer (some q)) := by
 subst hA
 exact Runs.indexAddr ho hx hy hu hz hs hl hq
theorem Runs.load1 {t : TypeId} {x : Operand} {p : Addr} {d : TypeDesc} {v : Value} (ho : o.op = .load t x) (hx : Ev env x (.pointer (some p))) (hu : P.underlying t = some d) (hd : d.isRow = false) (hc : w.cell? p = some v) : Runs P N env o w v := fun a w' ha hw => by
 have hc' : w'.cell? p = some v := (cell_heap hw p).trans hc
 have hagg : (isAgg t).run P w' = .ok false w' := by
  unfold isAgg
  rw [Sem.run_bind, run_underlying hu w']
  cases d <;> simp_all
 unfold execOp; rw [ho]; simp only []; rw [ha.eval hx]
 simp [go_sem, hagg, hc']
theorem QG.result2 {fn : Func} {R : Ending → World → Prop} {t u : Tmp} {v x : Value} (hf : fn.results = #[.tmp t, .tmp u]) (hv : look env t = some v) (hx : look env u = some x) (h : R (.returned (.tuple #[v, x])) w) : QG (bodyPost P fn R) .ret N env w := by
 intro a ha
 refine ⟨ha.defers, .tuple #[v, x], ?_, h⟩
 rw [results_tmp2 hf]
 have e1 : a.tmps.getD t undef = v := ha.eval (x := .tmp t) (v := v) hv
 have e2 : a.tmps.getD u undef = x := ha.eval (x := .tmp u) (v := x) hx
 rw [e1, e2]
end
/-! ### Short names -/
section
variable {P : Program} {ops : Array Oper} {Q : Exit → Act → World → Prop} {N : Nat} {w : World} {rest : List Oper} {env : Env} {o : Oper}
/-- An operation that is wanted, and where what it leaves goes. -/
noncomputable def rdy (ops : Array Oper) (env : Env) (N : Nat) (o : Oper) : Option Nat :=
 match o.dst, want ops env o with
 | some n, some true => bif Nat.blt n N then some n else none
 | _, _ => none
noncomputable def rdyF (ops : Array Oper) (env : Env) (N : Nat) (o : Oper) : Option Nat :=
 match o.dst, want ops env o with
 | some n, some false => bif Nat.blt n N then some n else none
 | _, _ => none
theorem rdy_is {n : Nat} (h : rdy ops env N o = some n) : o.dst = some n ∧ Nat.blt n N = true ∧ want ops env o = some true := by
 unfold rdy at h
 split at h
 ·next m h1 h2 =>
  cases hb : Nat.blt m N with
  | true => rw [hb] at h; simp only [cond_true, Option.some.injEq] at h; subst h; exact ⟨h1, hb, h2⟩
  | false => rw [hb] at h; cases h
 ·cases h
theorem rdyF_is {n : Nat} (h : rdyF ops env N o = some n) : o.dst = some n ∧ Nat.blt n N = true ∧ want ops env o = some false := by
 unfold rdyF at h
 split at h
 ·next m h1 h2 =>
  cases hb : Nat.blt m N with
  | true => rw [hb] at h; simp only [cond_true, Option.some.injEq] at h; subst h; exact ⟨h1, hb, h2⟩
  | false => rw [hb] at h; cases h
 ·cases h
theorem gr {n : Nat} {v : Value} (h : rdy ops env N o = some n) (hr : Runs P N env o w v) (k : GL P ops Q N w rest ((n, v) :: env)) : GL P ops Q N w (o :: rest) env := GL.run (rdy_is h).1 (rdy_is h).2.1 (rdy_is h).2.2 hr k
theorem gm {n : Nat} {x : Operand} {v : Value} (h : rdy ops env N o = some n) (ho : o.op = .move x) (hx : Ev env x v) (k : GL P ops Q N w rest ((n, v) :: env)) : GL P ops Q N w (o :: rest) env := gr h (Runs.move ho hx) k
theorem ga {n : Nat} {x : Operand} {v : Value} (h : rdy ops env N o = some n) (ho : o.op = .assign x) (hx : Ev env x v) (k : GL P ops Q N w rest ((n, v) :: env)) : GL P ops Q N w (o :: rest) env := gr h (Runs.assign ho hx) k
theorem gk {n : Nat} (h : rdyF ops env N o = some n) (k : GL P ops Q N w rest ((n, undef) :: env)) : GL P ops Q N w (o :: rest) env := GL.skip (rdyF_is h).1 (rdyF_is h).2.1 (rdyF_is h).2.2 k
theorem gt {n : Nat} {c x y : Operand} {v : Value} (h : rdy ops env N o = some n) (ho : o.op = .pick c x y) (hc : Ev env c (.bool true)) (hx : Ev env x v) (k : GL P ops Q N w rest ((n, v) :: env)) : GL P ops Q N w (o :: rest) env := gr h (Runs.pick_t ho hc hx) k
theorem gd (h : QG Q .normal N env w) : GL P ops Q N w [] env := GL.done h
theorem cs {x y : Code} (h : CG P x (Exit.then (y.wp P Q) Q) N env w) : CG P (.seq x y) Q N env w := CG.seq h
theorem cl {id : Nat} {l : List Oper} (h : GL P l.toArray Q N w l env) : CG P (.region id l.toArray false) Q N env w := CG.list h
theorem qc {y : Code} {Q' : Exit → Act → World → Prop} (h : CG P y Q' N env w) : QG (Exit.then (y.wp P Q') Q) .normal N env w := h
end
end Go.Proofs.Ytkjefnlhhfpllaa.E
namespace Go.Proofs.Ytkjefnlhhfpllaa.E
open Go.RowKit Go.Proofs.YtkjefnlhhfpllaaW.PrintWords Go.Proofs.YtkjefnlhhfpllaaW.PrintMore
open Go.Proofs.Ytkjefnlhhfpllaa.T
set_option linter.unusedVariables false
set_option linter.unusedSimpArgs false
section
variable {P : Program} {ops : Array Oper} {Q : Exit → Act → World → Prop} {N : Nat} {w : World} {rest : List Oper} {env : Env} {o : Oper} {K : Value → World → Prop}
/-- append(v, ys...), ys a slice that is read. -/
theorem ST.appendRows {α : Type} (d : Kd α) {w0 W : World} (base : Nat) {s x : Operand} {t e : TypeId} {z : Value} {bytes : Nat}
  (ho : o.op = .call { callee := .builtin .append, args := #[s, x], argTypes := #[t, t] })
  (ht : P.underlying t = some (.slice e)) (hinfo : (P.info? e).map (fun i => (i.zero, i.size, i.bytes)) = some (some z, d.sz, bytes)) (hz : z.cells.size = d.sz) (hs0 : 0 < d.sz) (hb0 : 0 < bytes)
  {v : Value} {xs ys : List α} {A : Option Addr} {m c : Nat} (hs : Ev env s v) (hx : Ev env x (.slice A m c))
  (HO : d.R e W base (fun _ => True) v xs) (HR : d.C W A m ys) (hKM : ∀ x cs, d.K W x cs → d.M W base (fun _ => False) x cs)
  (HB : Below base w0 W) (hbase : base ≤ W.heap.size) (hl : (xs.length + m) * bytes ≤ 140737488355328)
  (h : ∀ v1 w1, d.R e w1 base (fun _ => True) v1 (xs ++ ys) → Below base w0 w1 → W.grownBy w1 v.ownBlock → K v1 w1) : ST P Q N env W o K := by
 intro a ha Kc hK
 have h0 : Region.wanted { o with guard := none } (yielded #[] a.tmps) = true := rfl
 have := Kd.R_append_rows_step (P := P) (ops := #[]) (o := { o with guard := none }) (a := a) (Q := Q) (Kc := Kc) d base h0 s x t e z bytes ho ht hinfo hz hs0 hb0 v xs ys A m c (fun _ => True) (fun _ => False) (ha.eval hs) (ha.eval hx) HO HR hKM (fun _ hk => hk.elim) (fun _ _ => trivial) HB hbase hl (fun v1 w1 h1 h2 h3 _ => hK _ _ (h v1 w1 h1 h2 h3))
 rw [if_pos h0] at this
 exact this
theorem setCells_mid {b : Nat} {t : TypeId} : ∀ (vs pre old post : List Value) (w : World), w.heap[b]? = some (.cells (pre ++ old ++ post).toArray t (0, 0)) → old.length = vs.length →
  (w.setCells b pre.length vs).heap[b]? = some (.cells (pre ++ vs ++ post).toArray t (0, 0)) ∧ w.grownBy (w.setCells b pre.length vs) (some b)
 | [], pre, old, post, w, h, hl => by
  obtain rfl : old = [] := List.eq_nil_of_length_eq_zero hl
  exact ⟨h, World.grownBy.refl _ _⟩
 | v :: vs, pre, [], post, w, h, hl => by simp at hl
 | v :: vs, pre, o :: old, post, w, h, hl => by
  have h1 : (w.setCell ⟨b, pre.length, none⟩ v).heap[b]? = some (.cells ((pre ++ [v]) ++ old ++ post).toArray t (0, 0)) := by
   rw [blk_set h]
   congr 1
   simp
  have h2 := setCells_mid vs (pre ++ [v]) old post _ h1 (by simpa using hl)
  rw [List.length_append, List.length_singleton] at h2
  refine ⟨?_, (gb_set (World.grownBy.refl w _) (.inr rfl) v).trans h2.2⟩
  have := h2.1
  simp only [List.append_assoc, List.singleton_append] at this ⊢
  exact this
/-- A part of a variable of ours is written. -/
theorem ST.storeS {ty : TypeId} {x y : Operand} {b off : Nat} {cells : List Value} {all all' : List Value} {t : TypeId} (ho : o.op = .store ty x y) (hx : Ev env x (.pointer (some ⟨b, off, none⟩))) (hy : Ev env y (.agg cells.toArray))
  (hb : w.heap[b]? = some (.cells all.toArray t (0, 0))) (hs : Nat.ble (off + cells.length) all.length = true) (hi : (P.info? ty).map (·.size) = some cells.length) (h1 : cells.toArray.all (·.oneCell') = true) (hc : all.take off ++ cells ++ all.drop (off + cells.length) = all')
  (h : ∀ w1, w1.heap[b]? = some (.cells all'.toArray t (0, 0)) → w.grownBy w1 (some b) → K undef w1) : ST P Q N env w o K := by
 intro a ha Kc hK
 have hs' : off + cells.length ≤ all.length := by simpa [Nat.ble_eq] using hs
 have hsplit : all = all.take off ++ (all.drop off).take cells.length ++ all.drop (off + cells.length) := by
  rw [List.append_assoc, ← List.drop_drop, List.take_append_drop, List.take_append_drop]
 have hk := setCells_mid (b := b) (t := t) cells (all.take off) ((all.drop off).take cells.length) (all.drop (off + cells.length)) w (by rw [← hsplit]; exact hb) (by simp; omega)
 have hlen : (all.take off).length = off := by simp; omega
 rw [hlen, hc] at hk
 refine wp_store_mid (P := P) ty x y ho b off cells.toArray (ha.eval hx) (ha.eval hy) ?_ (by simpa using hi) h1 (hK undef _ (h _ (by simpa using hk.1) (by simpa using hk.2)))
 intro j hj
 have hj' : j < cells.length := by simpa using hj
 constructor
 ·rw [blk_cell hb, Array.getElem?_eq_getElem (by simp; omega)]
  rfl
 ·exact blk_frozen hb _
end
end Go.Proofs.Ytkjefnlhhfpllaa.E
namespace Go.Proofs.Ytkjefnlhhfpllaa.E
open Go.RowKit Go.Proofs.YtkjefnlhhfpllaaW.PrintWords Go.Proofs.YtkjefnlhhfpllaaW.PrintMore
open Go.Proofs.Ytkjefnlhhfpllaa.T
set_option linter.unusedVariables false
set_option linter.unusedSimpArgs false
/-- Till operation b has come up S1 is known of the world, then S0. -/
def SJ (b : Nat) (S1 S0 : World → Prop) (L : Array Bool) (w : World) : Prop := bif L.getD b false then S0 w else S1 w
theorem SJ.before {b : Nat} {S1 S0 : World → Prop} {L : Array Bool} {w : World} (h : L.getD b false = false) : SJ b S1 S0 L w ↔ S1 w := by unfold SJ; rw [h]; rfl
theorem SJ.behind {b : Nat} {S1 S0 : World → Prop} {L : Array Bool} {w : World} (h : L.getD b false = true) : SJ b S1 S0 L w ↔ S0 w := by unfold SJ; rw [h]; rfl
theorem SJ.or {b : Nat} {S1 S0 : World → Prop} {L : Array Bool} {w : World} (h : SJ b S1 S0 L w) : S1 w ∨ S0 w := by
 unfold SJ at h
 cases hb : L.getD b false <;> rw [hb] at h
 ·exact .inl h
 ·exact .inr h
theorem SJ.same {b i : Nat} {S1 S0 : World → Prop} {L : Array Bool} {w : World} (h : i ≠ b) : SJ b S1 S0 (L.setIfInBounds i true) w ↔ SJ b S1 S0 L w := by unfold SJ; rw [getD_set_ne false h]
def wpAnyJ (P : Program) (ops : Array Oper) (Q : Exit → Act → World → Prop) (b : Nat) (S1 S0 : World → Prop) : Nat → Array Bool → Act → World → Prop
 | 0, L, a, w => Region.ready .any ops L = [] ∧ Q .normal a w
 | f + 1, L, a, w => (Region.ready .any ops L = [] → Q .normal a w) ∧ ∀ i ∈ Region.ready .any ops L, wpOp P ops Q i (fun a' w' => SJ b S1 S0 (L.setIfInBounds i true) w' ∧ wpAnyJ P ops Q b S1 S0 f (L.setIfInBounds i true) a' w') a w
section
variable {P : Program} {ops : Array Oper} {Q : Exit → Act → World → Prop} {b : Nat} {S1 S0 : World → Prop}
theorem wpAny_of_J : ∀ (f : Nat) (L : Array Bool) (a : Act) (w : World), wpAnyJ P ops Q b S1 S0 f L a w → wpAny P .any ops Q f L a w
 | 0, _, _, _, h => h
 | f + 1, _, _, _, h => ⟨h.1, fun i hi => wpOp_mono (fun a' w' h' => wpAny_of_J f _ a' w' h'.2) (h.2 i hi)⟩
/-- An operation that b waits for may be taken first: what it leaves is told in the worlds before b. -/
theorem J_first1 {i : Nat} {oi ob : Oper} {v : Value} (hi : ops[i]? = some oi) (hib : i ≠ b) (hob : ops[b]? = some ob) (hbi : ∃ e ∈ ob.after, Region.binds .any e = true ∧ e.on = i) (hsel : ∀ (j : Nat) (o : Oper) cs c, ops[j]? = some o → o.op ≠ .select cs c)
  (hQ : ∀ c a w, Q (.panic c) (a.put oi.dst v) w → Q (.panic c) a w) :
  ∀ (fuel : Nat) (L : Array Bool) (a : Act) (w : World), L.getD b false = false →
   (∀ j oj, ops[j]? = some oj → j ≠ i → L.getD j true = false → (∀ e ∈ oj.after, Region.binds .any e = true → e.on ≠ i) → oi.apart ops oj = true) →
   i ∈ Region.ready .any ops L → YieldsIf P ops S1 oi v a → S1 w →
   wpAnyJ P ops Q b S1 S0 fuel (L.setIfInBounds i true) (a.put oi.dst v) w → wpAnyJ P ops Q b S1 S0 (fuel + 1) L a w := by
 intro fuel
 induction fuel with
 | zero =>
  intro L a w hb _ hr hy hS H
  refine ⟨fun h => (by rw [h] at hr; cases hr), fun j hj => ?_⟩
  by_cases hji : j = i
  ·subst hji; exact hy.wpOp hi hS ⟨(SJ.same hib).mpr ((SJ.before hb).mpr hS), H⟩
  ·have := ready_mono hj hji
   rw [H.1] at this
   cases this
 | succ fuel ih =>
  intro L a w hb hfree hr hy hS H
  refine ⟨fun h => (by rw [h] at hr; cases hr), fun j hj => ?_⟩
  by_cases hji : j = i
  ·subst hji; exact hy.wpOp hi hS ⟨(SJ.same hib).mpr ((SJ.before hb).mpr hS), H⟩
  ·have h1 := H.2 j (ready_mono hj hji)
   obtain ⟨hjun, oj, hoj, hall⟩ := mem_ready.1 hj
   have h0 := (mem_ready.1 hr).1
   have nol : ∀ k, k = i → L.getD k false = true → False := fun k hk h' => by
    subst hk
    rcases Nat.lt_or_ge k L.size with h2 | h2
    ·simp [h2] at h0 h'; rw [h0] at h'; cases h'
    ·simp [Array.getElem?_eq_none h2] at h'
   have hjb : j ≠ b := fun e => by
    subst e
    rw [hob] at hoj
    cases hoj
    obtain ⟨e, he, hbe, heq⟩ := hbi
    exact nol _ heq (hall e he hbe)
   have hnot : ∀ e ∈ oj.after, Region.binds .any e = true → e.on ≠ i := fun e he hbe heq => nol _ heq (hall e he hbe)
   have h2 := wpOp_putIf hoj (hfree j oj hoj hji hjun hnot) (fun cs c => hsel i oi cs c hi) (fun cs c => hsel j oj cs c hoj) hQ hy h1
   have hfree' : ∀ k ok, ops[k]? = some ok → k ≠ i → (L.setIfInBounds j true).getD k true = false → (∀ e ∈ ok.after, Region.binds .any e = true → e.on ≠ i) → oi.apart ops ok = true := fun k ok hk hki hun hno => by
    refine hfree k ok hk hki ?_ hno
    by_cases hjk : j = k
    ·subst hjk; exact hjun
    ·rw [getD_set_ne true hjk] at hun; exact hun
   have hbj : (L.setIfInBounds j true).getD b false = false := by rw [getD_set_ne false hjb]; exact hb
   refine wpOp_mono (fun a' w' h3 => ?_) h2
   have hs1 : S1 w' := by
    have := h3.2.1
    rw [SJ.same hjb, SJ.same hib, SJ.before hb] at this
    exact this
   refine ⟨(SJ.before hbj).mpr hs1, ih (L.setIfInBounds j true) a' w' hbj hfree' (ready_mono hr (Ne.symm hji)) h3.1 hs1 ?_⟩
   rw [Array.setIfInBounds_comm _ _ hji]
   exact h3.2.2
/-- An operation that leaves the same whatever is written. -/
theorem J_first2 {i : Nat} {oi : Oper} {v : Value} (hi : ops[i]? = some oi) (hib : i ≠ b) (hsel : ∀ (j : Nat) (o : Oper) cs c, ops[j]? = some o → o.op ≠ .select cs c)
  (hQ : ∀ c a w, Q (.panic c) (a.put oi.dst v) w → Q (.panic c) a w) :
  ∀ (fuel : Nat) (L : Array Bool) (a : Act) (w : World),
   (∀ j oj, ops[j]? = some oj → j ≠ i → L.getD j true = false → (∀ e ∈ oj.after, Region.binds .any e = true → e.on ≠ i) → oi.apart ops oj = true) →
   i ∈ Region.ready .any ops L → YieldsIf P ops (fun w => S1 w ∨ S0 w) oi v a → SJ b S1 S0 L w →
   wpAnyJ P ops Q b S1 S0 fuel (L.setIfInBounds i true) (a.put oi.dst v) w → wpAnyJ P ops Q b S1 S0 (fuel + 1) L a w := by
 intro fuel
 induction fuel with
 | zero =>
  intro L a w _ hr hy hS H
  refine ⟨fun h => (by rw [h] at hr; cases hr), fun j hj => ?_⟩
  by_cases hji : j = i
  ·subst hji; exact hy.wpOp hi hS.or ⟨(SJ.same hib).mpr hS, H⟩
  ·have := ready_mono hj hji
   rw [H.1] at this
   cases this
 | succ fuel ih =>
  intro L a w hfree hr hy hS H
  refine ⟨fun h => (by rw [h] at hr; cases hr), fun j hj => ?_⟩
  by_cases hji : j = i
  ·subst hji; exact hy.wpOp hi hS.or ⟨(SJ.same hib).mpr hS, H⟩
  ·have h1 := H.2 j (ready_mono hj hji)
   obtain ⟨hjun, oj, hoj, hall⟩ := mem_ready.1 hj
   have hnot : ∀ e ∈ oj.after, Region.binds .any e = true → e.on ≠ i := fun e he hb heq => by
    have h1 := hall e he hb
    have h0 := (mem_ready.1 hr).1
    rw [heq] at h1
    rcases Nat.lt_or_ge i L.size with h' | h'
    ·simp [h'] at h0 h1; rw [h0] at h1; cases h1
    ·simp [Array.getElem?_eq_none h'] at h1
   have h2 := wpOp_putIf hoj (hfree j oj hoj hji hjun hnot) (fun cs c => hsel i oi cs c hi) (fun cs c => hsel j oj cs c hoj) hQ hy h1
   have hfree' : ∀ k ok, ops[k]? = some ok → k ≠ i → (L.setIfInBounds j true).getD k true = false → (∀ e ∈ ok.after, Region.binds .any e = true → e.on ≠ i) → oi.apart ops ok = true := fun k ok hk hki hun hno => by
    refine hfree k ok hk hki ?_ hno
    by_cases hjk : j = k
    ·subst hjk; exact hjun
    ·rw [getD_set_ne true hjk] at hun; exact hun
   refine wpOp_mono (fun a' w' h3 => ?_) h2
   have hs1 : SJ b S1 S0 (L.setIfInBounds j true) w' := by
    have := h3.2.1
    rw [Array.setIfInBounds_comm _ _ (Ne.symm hji), SJ.same hib] at this
    exact this
   refine ⟨hs1, ih (L.setIfInBounds j true) a' w' hfree' (ready_mono hr (Ne.symm hji)) h3.1 hs1 ?_⟩
   rw [Array.setIfInBounds_comm _ _ hji]
   exact h3.2.2
variable {N : Nat} {w : World} {env : Env} {o : Oper} {fuel : Nat} {L : Array Bool}
def GJ (P : Program) (ops : Array Oper) (Q : Exit → Act → World → Prop) (b : Nat) (S1 S0 : World → Prop) (N : Nat) (fuel : Nat) (L : Array Bool) (env : Env) (w : World) : Prop := ∀ a, Holds N a env → SJ b S1 S0 L w → wpAnyJ P ops Q b S1 S0 fuel L a w
theorem CG.heldJ {id : Nat} (b : Nat) (S1 S0 : World → World → Prop) (hb : Nat.blt b ops.size = true) (hm : P.follows .mixedOrders = true) (hS : ∀ v, S1 v v) (h : ∀ v, Below w.heap.size w v → GJ P ops Q b (S1 v) (S0 v) N ops.size (Array.replicate ops.size false) env v) : CG P (.region id ops true) Q N env w := by
 intro a ha
 refine wp_region_any hm (wpAny_of_J (b := b) (S1 := S1 w.drew) (S0 := S0 w.drew) _ _ _ _ ?_)
 refine h w.drew (below_drew (Below.refl _ _)) a ha ?_
 refine (SJ.before ?_).mpr (hS _)
 have : b < ops.size := by simpa [Nat.blt_eq] using hb
 simp [this]
theorem GJ.take1 {i n : Nat} {v : Value} {ob : Oper} (hi : ops[i]? = some o) (hs : Region.noSelect ops = true) (hf : Region.free .any ops L i = true) (hr : (Region.ready .any ops L).contains i = true) (hib : (i == b) = false) (hob : ops[b]? = some ob) (hbi : (ob.after.any fun e => Region.binds .any e && e.on == i) = true) (hLb : L.getD b false = false)
  (hQ : Calm Q) (hd : o.dst = some n) (hn : Nat.blt n N = true) (hw : want ops env o = some true) (hy : ∀ w', S1 w' → Runs P N env o w' v) (h : GJ P ops Q b S1 S0 N fuel (L.setIfInBounds i true) ((n, v) :: env) w) : GJ P ops Q b S1 S0 N (fuel + 1) L env w := by
 intro a ha hS
 have hib' : i ≠ b := by simpa using hib
 obtain ⟨e, he, hbe⟩ := Array.any_eq_true'.1 hbi
 simp only [Bool.and_eq_true, beq_iff_eq] at hbe
 have hS1 := (SJ.before hLb).mp hS
 refine J_first1 hi hib' hob ⟨e, he, hbe.1, hbe.2⟩ (Region.noSelect_spec hs) (fun c a w => hQ c a _ v w) fuel L a w hLb (Region.free_spec hi hf) (by simpa using hr) (.inl ⟨wanted_of ha hw, fun w' hw' => hy w' hw' a w' ha rfl⟩) hS1 ?_
 rw [hd]
 exact h _ (ha.put v (by simpa [Nat.blt_eq] using hn)) ((SJ.same hib').mpr hS)
theorem GJ.take2 {i n : Nat} {v : Value} (hi : ops[i]? = some o) (hs : Region.noSelect ops = true) (hf : Region.free .any ops L i = true) (hr : (Region.ready .any ops L).contains i = true) (hib : (i == b) = false)
  (hQ : Calm Q) (hd : o.dst = some n) (hn : Nat.blt n N = true) (hw : want ops env o = some true) (hy : ∀ w', (S1 w' ∨ S0 w') → Runs P N env o w' v) (h : GJ P ops Q b S1 S0 N fuel (L.setIfInBounds i true) ((n, v) :: env) w) : GJ P ops Q b S1 S0 N (fuel + 1) L env w := by
 intro a ha hS
 have hib' : i ≠ b := by simpa using hib
 refine J_first2 hi hib' (Region.noSelect_spec hs) (fun c a w => hQ c a _ v w) fuel L a w (Region.free_spec hi hf) (by simpa using hr) (.inl ⟨wanted_of ha hw, fun w' hw' => hy w' hw' a w' ha rfl⟩) hS ?_
 rw [hd]
 exact h _ (ha.put v (by simpa [Nat.blt_eq] using hn)) ((SJ.same hib').mpr hS)
theorem GJ.done (hr : Region.ready .any ops L = []) (h : QG Q .normal N env w) : GJ P ops Q b S1 S0 N fuel L env w := by
 intro a ha _
 cases fuel with
 | zero => exact ⟨hr, h a ha⟩
 | succ f => exact ⟨fun _ => h a ha, fun i hi => by rw [hr] at hi; cases hi⟩
/-- One of those that may come up is carried out. -/
def OJ (P : Program) (ops : Array Oper) (Q : Exit → Act → World → Prop) (b : Nat) (S1 S0 : World → Prop) (N : Nat) (fuel : Nat) (L : Array Bool) (env : Env) (w : World) (i : Nat) : Prop :=
 ∀ a, Holds N a env → wpOp P ops Q i (fun a' w' => SJ b S1 S0 (L.setIfInBounds i true) w' ∧ wpAnyJ P ops Q b S1 S0 fuel (L.setIfInBounds i true) a' w') a w
theorem OJ.st {i n : Nat} (ho : ops[i]? = some o) (hd : o.dst = some n) (hn : Nat.blt n N = true) (hw : want ops env o = some true) (h : ST P Q N env w o (fun v w1 => SJ b S1 S0 (L.setIfInBounds i true) w1 ∧ GJ P ops Q b S1 S0 N fuel (L.setIfInBounds i true) ((n, v) :: env) w1)) : OJ P ops Q b S1 S0 N fuel L env w i := by
 intro a ha
 refine wpOp_step ho fun K' hK => ?_
 rw [if_pos (wanted_of ha hw)]
 refine h a ha K' fun v w1 h1 => hK _ _ ⟨h1.1, ?_⟩
 rw [hd]
 exact h1.2 _ (ha.put v (by simpa [Nat.blt_eq] using hn)) h1.1
theorem OJ.sn {i : Nat} (ho : ops[i]? = some o) (hd : o.dst = none) (hw : want ops env o = some true) (h : ST P Q N env w o (fun v w1 => SJ b S1 S0 (L.setIfInBounds i true) w1 ∧ GJ P ops Q b S1 S0 N fuel (L.setIfInBounds i true) env w1)) : OJ P ops Q b S1 S0 N fuel L env w i := by
 intro a ha
 refine wpOp_step ho fun K' hK => ?_
 rw [if_pos (wanted_of ha hw)]
 refine h a ha K' fun v w1 h1 => hK _ _ ⟨h1.1, ?_⟩
 rw [hd]
 exact h1.2 _ ha h1.1
theorem GJ.one {i : Nat} (hr : Region.ready .any ops L = [i]) (h : OJ P ops Q b S1 S0 N fuel L env w i) : GJ P ops Q b S1 S0 N (fuel + 1) L env w := by
 intro a ha _
 refine ⟨fun h0 => (by rw [hr] at h0; cases h0), fun j hj => ?_⟩
 rw [hr, List.mem_singleton] at hj
 subst hj
 exact h a ha
theorem GJ.two {i j : Nat} (hr : Region.ready .any ops L = [i, j]) (h1 : OJ P ops Q b S1 S0 N fuel L env w i) (h2 : OJ P ops Q b S1 S0 N fuel L env w j) : GJ P ops Q b S1 S0 N (fuel + 1) L env w := by
 intro a ha _
 refine ⟨fun h0 => (by rw [hr] at h0; cases h0), fun k hk => ?_⟩
 rw [hr] at hk
 rcases List.mem_cons.mp hk with rfl | hk
 ·exact h1 a ha
 ·rw [List.mem_singleton] at hk
  subst hk
  exact h2 a ha
/-! ### Where ways meet -/
theorem CG.cut2 {c : Code} {γ δ : Type} (E : γ → δ → Env) (R : γ → δ → World → Prop) (h : CG P c (fun e a w' => e = .normal ∧ ∃ g d, Holds N a (E g d) ∧ R g d w') N env w) (k : ∀ g d w', R g d w' → QG Q .normal N (E g d) w') : CG P c Q N env w := by
 intro a ha
 refine wp_mono (h a ha) ?_
 rintro e a' w' ⟨rfl, g, d, hh, hr⟩
 exact k g d w' hr a' hh
theorem QG.meet2 {γ δ : Type} {E : γ → δ → Env} {R : γ → δ → World → Prop} (g : γ) (d : δ) (h0 : Sub (E g d) env) (hR : R g d w) : QG (fun e a w' => e = .normal ∧ ∃ g d, Holds N a (E g d) ∧ R g d w') .normal N env w := fun a ha => ⟨rfl, g, d, ha.sub h0, hR⟩
theorem CG.cut1 {c : Code} {γ : Type} (E : γ → Env) (R : γ → World → Prop) (h : CG P c (fun e a w' => e = .normal ∧ ∃ g, Holds N a (E g) ∧ R g w') N env w) (k : ∀ g w', R g w' → QG Q .normal N (E g) w') : CG P c Q N env w := by
 intro a ha
 refine wp_mono (h a ha) ?_
 rintro e a' w' ⟨rfl, g, hh, hr⟩
 exact k g w' hr a' hh
theorem QG.meet1 {γ : Type} {E : γ → Env} {R : γ → World → Prop} (g : γ) (h0 : Sub (E g) env) (hR : R g w) : QG (fun e a w' => e = .normal ∧ ∃ g, Holds N a (E g) ∧ R g w') .normal N env w := fun a ha => ⟨rfl, g, ha.sub h0, hR⟩
theorem calm_cut2 {γ δ : Type} {E : γ → δ → Env} {R : γ → δ → World → Prop} : Calm (fun e a w' => e = Exit.normal ∧ ∃ g d, Holds N a (E g d) ∧ R g d w') := by
 intro c a d v w h
 exact nomatch h.1
/-! ### What a region leaves as it was -/
/-- The cells of these blocks are as they were. -/
def Keeps (B : Nat → Prop) (v W : World) : Prop := ∀ q u, B q.block → v.cell? q = some u → W.cell? q = some u
theorem Keeps.refl {B : Nat → Prop} (v : World) : Keeps B v v := fun _ _ _ h => h
theorem Keeps.below {B : Nat → Prop} {v W W' : World} (h : Keeps B v W) (l : Below W.heap.size W W') : Keeps B v W' := fun q u hB hq => pw_cell_below l (h q u hB hq)
theorem Keeps.grown {B : Nat → Prop} {v W W' : World} {row : Option Nat} (h : Keeps B v W) (l : W.grownBy W' row) (hn : ∀ k, row = some k → ¬ B k) : Keeps B v W' := fun q u hB hq => cell_grown l (h q u hB hq) (fun e => hn _ e.symm hB)
/-- A slice is written out: a row of ours, and that it is new. -/
theorem ST.litAt {α : Type} (d : Kd α) {w0 : World} (base : Nat) {t : TypeId} {m n : Nat} {xs : List (Nat × Operand)} {vs : List (Nat × Value)} {e : TypeId} {ys : List α} {inner : List Value} {K : Value → World → Prop} (hd : o.dst = some n) (ho : o.op = .buildSlice t m xs.toArray) (hx : EvP env xs vs)
  (hr : ∀ W, (Instr.buildSlice t m vs.toArray).run P W = .ok (.slice (some ⟨W.heap.size, 0, none⟩) ys.length ys.length) (W.alloc (.cells inner.toArray e))) (hrep : Reps (d.M w base (fun _ => False)) d.sz ys inner) (HB : Below base w0 w) (hbase : base ≤ w.heap.size) (hm : ys.length ≤ 9223372036854775807)
  (h : ∀ v1 w1, d.R e w1 base (fun _ => True) v1 ys → Below base w0 w1 → Below w.heap.size w w1 → (∃ k, v1.ownBlock = some k ∧ w.heap.size ≤ k) → K v1 w1) : ST P Q N env w o K := by
 intro a ha Kc hK
 have e1 := ha.evalP hx
 have hrun : (execOp a.eval o).run P w = .ok (.value (.slice (some ⟨w.heap.size, 0, none⟩) ys.length ys.length)) (w.alloc (.cells inner.toArray e)) := by
  have hr' := hr w
  generalize a.eval = ρ at e1 ⊢
  unfold execOp; rw [ho]
  simp only [List.map_toArray, e1]
  rw [Sem.run_bind, hr']; rfl
 have h0 : Region.wanted { o with guard := none } (yielded #[] a.tmps) = true := rfl
 have := Kd.R_lit_step (P := P) (ops := #[]) (o := { o with guard := none }) (a := a) (Q := Q) (W := w) (Kc := Kc) d (w0 := w0) base e h0 (N := n) hd (xs := ys) (inner := inner) (ok := fun _ => True) (okp := fun _ => False) hrun hrep (fun _ hk => hk.elim) trivial HB hbase hm
  (fun v1 w1 h1 h2 h3 h4 => hK _ _ (h v1 w1 h1 h2 (belowG h3) h4))
 rw [if_pos h0] at this
 exact this
theorem gb_row {w0 w1 : World} {row row' : Option Nat} (h : w0.grownBy w row) (k : w.grownBy w1 row') (hn : ∀ i, row' = some i → w0.heap.size ≤ i) : w0.grownBy w1 row :=
 ⟨k.os.trans h.os, k.tape.trans h.tape, k.output.trans h.output, Nat.le_trans h.size k.size, fun i hi hr => (k.block i (Nat.lt_of_lt_of_le hi h.size) (fun e => by have := hn i e.symm; omega)).trans (h.block i hi hr)⟩
/-- A slice of whole numbers is written out: its block. -/
theorem ST.litB {t : TypeId} {m : Nat} {xs : List (Nat × Operand)} {vs : List (Nat × Value)} {e : TypeId} {cs : Array Value} {K : Value → World → Prop} (ho : o.op = .buildSlice t m xs.toArray) (hx : EvP env xs vs)
  (hr : ∀ W, (Instr.buildSlice t m vs.toArray).run P W = .ok (.slice (some ⟨W.heap.size, 0, none⟩) m m) (W.alloc (.cells cs e (0, 0)))) (h : ∀ g w1, g = w.heap.size → w1.heap[g]? = some (.cells cs e (0, 0)) → Below w.heap.size w w1 → K (.slice (some ⟨g, 0, none⟩) m m) w1) : ST P Q N env w o K :=
 ST.lit ho hx hr (h _ _ rfl (blk_new w _) (below_alloc (Below.refl _ _) _))
/-- Cells in the middle of a block are written. -/
theorem ST.storeMid {ty : TypeId} {x y : Operand} {g off : Nat} {cells : List Value} {K : Value → World → Prop} (ho : o.op = .store ty x y) (hx : Ev env x (.pointer (some ⟨g, off, none⟩))) (hy : Ev env y (.agg cells.toArray)) (ht : w.there g off cells.length) (hi : (P.info? ty).map (·.size) = some cells.length) (h1 : cells.toArray.all (·.oneCell') = true)
  (h : K undef (w.setCells g off cells)) : ST P Q N env w o K := by
 intro a ha Kc hK
 exact wp_store_mid (P := P) ty x y ho g off cells.toArray (ha.eval hx) (ha.eval hy) (by simpa using ht) (by simpa using hi) h1 (hK undef _ (by simpa using h))
/-- A slice is written into one cell. -/
theorem ST.storeSl {ty : TypeId} {x y : Operand} {g i : Nat} {A : Option Addr} {n c : Nat} {cs cs' : List Value} {t : TypeId} {K : Value → World → Prop} (ho : o.op = .store ty x y) (hz : Sized P ty) (hz1 : P.cellsOf ty = 1) (hx : Ev env x (.pointer (some ⟨g, i, none⟩))) (hy : Ev env y (.slice A n c))
  (hb : w.heap[g]? = some (.cells cs.toArray t (0, 0))) (hi : Nat.blt i cs.length = true) (hcs : cs.set i (.slice A n c) = cs') (h : ∀ w1, w1.heap[g]? = some (.cells cs'.toArray t (0, 0)) → w.grownBy w1 (some g) → K undef w1) : ST P Q N env w o K := by
 intro a ha Kc hK
 have hi' : i < cs.length := by simpa [Nat.blt_eq] using hi
 have h1 : w.cell? ⟨g, i, none⟩ = some cs[i] := by rw [blk_cell hb]; simp [hi']
 have h2 : w.frozen? ⟨g, i, none⟩ = false := blk_frozen hb i
 have hr : (execOp a.eval o).run P w = .ok .skip (w.setCell ⟨g, i, none⟩ (.slice A n c)) := by
  unfold execOp; rw [ho]; simp only []; rw [ha.eval hx, ha.eval hy]
  obtain ⟨inf, q1, q2⟩ := hz
  simp [go_sem, run_sizeOf w q1, hz1, h1, h2]
 unfold Oper.wp
 rw [hr]
 refine hK undef _ (h _ ?_ (gb_set (World.grownBy.refl w _) (.inr rfl) _))
 rw [blk_set hb, ← hcs]
 simp
end
end Go.Proofs.Ytkjefnlhhfpllaa.E
namespace Go.Proofs.Ytkjefnlhhfpllaa.E
open Go.RowKit Go.Proofs.YtkjefnlhhfpllaaW.PrintWords Go.Proofs.YtkjefnlhhfpllaaW.PrintMore
set_option linter.unusedVariables false
set_option linter.unusedSimpArgs false
section
variable {P : Program} {N : Nat} {w : World} {env : Env} {o : Oper} {Q : Exit → Act → World → Prop}
/-- The end of a slice. -/
theorem Runs.sliceFrom {t e : TypeId} {x y : Operand} {p q : Option Addr} {n c i sz : Nat} {k : IntKind} (ho : o.op = .slice t x (some y) none none) (hx : Ev env x (.slice p n c)) (hy : Ev env y (.int k i)) (hu : P.underlying t = some (.slice e)) (hz : Sized P e) (hs : P.cellsOf e = sz) (hi : (i : Int) ≤ n) (hn : n ≤ c)
  (hq : (if c = i then p else p.map (·.add (i * sz))) = q) : Runs P N env o w (.slice q (n - i) (c - i)) := fun a w' ha hw => by
 obtain ⟨inf, h1, h2⟩ := hz
 have e1 := ha.eval hx
 have e2 := ha.eval hy
 generalize a.eval = ρ at e1 e2 ⊢
 unfold execOp; rw [ho]
 subst hs
 subst hq
 have h3 : i ≤ n := by omega
 cases p <;> simp [go_sem, e1, e2, Instr.sliceAt, Instr.slice, Instr.sliceBounds, Instr.sliceBound, run_underlying hu, run_sizeOf w' h1, asIntOf, h3, Sem.run_bind]
/-- The address of an array's element. -/
theorem Runs.indexArr {t e : TypeId} {x y : Operand} {p q : Addr} {len : Nat} {k : IntKind} {i : Int} {sz : Nat} (ho : o.op = .indexAddr t x y) (hx : Ev env x (.pointer (some p))) (hy : Ev env y (.int k i)) (hu : P.underlying t = some (.array len e)) (hz : Sized P e) (hs : P.cellsOf e = sz) (h0 : 0 ≤ i) (hl : i < len) (hq : p.add (i.toNat * sz) = q) : Runs P N env o w (.pointer (some q)) := fun a w' ha hw => by
 obtain ⟨inf, h1, h2⟩ := hz
 unfold execOp; rw [ho]; simp only []; rw [ha.eval hx, ha.eval hy]
 subst hq hs
 simp [go_sem, Instr.indexAt, asIntOf, run_underlying hu, run_sizeOf w' h1, h0, hl]
end
end Go.Proofs.Ytkjefnlhhfpllaa.E
namespace Go.Proofs.YtkjefnlhhfpllaaW.PrintWords
end Go.Proofs.YtkjefnlhhfpllaaW.PrintWords
namespace Go.Proofs.Ytkjefnlhhfpllaa.E
open Go.RowKit Go.Proofs.YtkjefnlhhfpllaaW.PrintWords Go.Proofs.YtkjefnlhhfpllaaW.PrintMore
open Go.Proofs.Ytkjefnlhhfpllaa.T
set_option linter.unusedVariables false
set_option linter.unusedSimpArgs false
/-- A fence that lets everything by, in whatever round. -/
structure WF (F : Fence) : Prop where
 d : F.depth = none
 f : ∀ f, F.fn f
 a : F.alive = false
theorem WF.wide : WF Fence.wide := ⟨rfl, fun _ => trivial, rfl⟩
theorem WF.round {F : Fence} (h : WF F) (l : Nat) : WF (F.inRound l) := ⟨h.d, h.f, h.a⟩
theorem WF.plain {F : Fence} (h : WF F) : F.plain = Fence.wide := by
 obtain ⟨h1, h2, h3⟩ := h
 cases F
 simp only [Fence.plain, Fence.wide] at *
 subst h1 h3
 congr
 funext f
 exact propext ⟨fun _ => trivial, fun _ => h2 f⟩
theorem WF.calls {F : Fence} (h : WF F) {n : Nat} {P : Program} {f : FuncId} {args : Array Value} {w : World} {R : Ending → World → Prop} (hc : Calls P f args w R) : CallsIn F n P f args w R := by
 have h1 : CallsIn F.plain n P f args w R := by rw [h.plain]; exact callsIn_wide.2 hc
 exact h1
theorem WF.rows {F : Fence} (h : WF F) {n : Nat} {P : Program} {row : String} {args : Array Value} {w : World} {R : Value → World → Prop} (hr : Rows P row args w R) : RowsIn F n P row args w R := fun c cs _ => by
 obtain ⟨v, w', r, s⟩ := hr c cs
 refine ⟨v, w', r, ?_⟩
 rw [← fenced_plain, h.plain]
 exact stepsIn_wide.2 s
def GI (F : Fence) (k : Nat) (P : Program) (ops : Array Oper) (Q : Exit → Act → World → Prop) (N : Nat) (w : World) (rest : List Oper) (env : Env) : Prop := ∀ a, Holds N a env → wpListIn F k P ops Q rest a w
def CI (F : Fence) (k : Nat) (P : Program) (c : Code) (Q : Exit → Act → World → Prop) (N : Nat) (env : Env) (w : World) : Prop := ∀ a, Holds N a env → c.wpIn F k P Q a w
section
variable {F : Fence} {k : Nat} {P : Program} {ops : Array Oper} {Q : Exit → Act → World → Prop} {N : Nat} {w : World} {rest : List Oper} {env : Env} {o : Oper}
theorem wpListIn_want {a : Act} (hw : Region.wanted o (yielded ops a.tmps) = true) (h : ∀ K : Act → World → Prop, (∀ a w, wpListIn F k P ops Q rest a w → K a w) → o.wpIn F k P a w K Q) : wpListIn F k P ops Q (o :: rest) a w :=
 wpListIn_step fun K hK => by rw [if_pos hw]; exact h K hK
def noDefer : Op → Bool
 | .defer _ => false
 | _ => true
theorem semAt_any (ho : noDefer o.op = true) (ρ : Operand → Value) : o.semAt F.round ρ = execOp ρ o :=
 Oper.semAt_plain F ρ o fun c e => by rw [e] at ho; exact Bool.noConfusion ho
theorem GI.run {n : Nat} {v : Value} (hF : WF F) (hnd : noDefer o.op = true) (hd : o.dst = some n) (hn : Nat.blt n N = true) (hw : want ops env o = some true) (hr : Runs P N env o w v) (h : GI F k P ops Q N w rest ((n, v) :: env)) : GI F k P ops Q N w (o :: rest) env := by
 intro a ha
 refine wpListIn_want (wanted_of ha hw) fun K hK => ⟨fun f _ => hF.f f, ?_⟩
 rw [semAt_any hnd, hr a w ha rfl]
 show K (a.put o.dst v) w
 rw [hd]
 exact hK _ _ (h _ (ha.put v (by simpa [Nat.blt_eq] using hn)))
/-- An operation that makes, writes, or calls, in a round. -/
def SI (F : Fence) (k : Nat) (P : Program) (Q : Exit → Act → World → Prop) (N : Nat) (env : Env) (w : World) (o : Oper) (K : Value → World → Prop) : Prop :=
 ∀ a, Holds N a env → ∀ Kc : Act → World → Prop, (∀ v w1, K v w1 → Kc (a.put o.dst v) w1) → Oper.wpIn F k P o a w Kc Q
theorem GI.st {n : Nat} (hd : o.dst = some n) (hn : Nat.blt n N = true) (hw : want ops env o = some true) (h : SI F k P Q N env w o (fun v w1 => GI F k P ops Q N w1 rest ((n, v) :: env))) : GI F k P ops Q N w (o :: rest) env := by
 intro a ha
 refine wpListIn_want (wanted_of ha hw) fun Kc hK => h a ha Kc fun v w1 h1 => hK _ _ ?_
 rw [hd]
 exact h1 _ (ha.put v (by simpa [Nat.blt_eq] using hn))
theorem GI.sn (hd : o.dst = none) (hw : want ops env o = some true) (h : SI F k P Q N env w o (fun v w1 => GI F k P ops Q N w1 rest env)) : GI F k P ops Q N w (o :: rest) env := by
 intro a ha
 refine wpListIn_want (wanted_of ha hw) fun Kc hK => h a ha Kc fun v w1 h1 => hK _ _ ?_
 rw [hd]
 exact h1 _ ha
theorem GI.done (h : QG Q .normal N env w) : GI F k P ops Q N w [] env := fun a ha => h a ha
/-- What is told of an operation outside of rounds holds in them: one that yields no row. -/
theorem SI.of {K : Value → World → Prop} (hF : WF F) (hnd : noDefer o.op = true) (h : ST P Q N env w o K) : SI F k P Q N env w o K := by
 intro a ha Kc hK
 have h1 := h a ha Kc hK
 refine ⟨fun f _ => hF.f f, ?_⟩
 rw [semAt_any hnd]
 unfold Oper.wp at h1
 generalize (execOp a.eval o).run P w = r at h1 ⊢
 cases r with
 | ok x w' =>
  cases x with
  | enter f args => exact ⟨fun e => by rw [hF.d] at e; exact Bool.noConfusion e, hF.calls h1⟩
  | row row args => exact ⟨fun e => by rw [hF.d] at e; exact Bool.noConfusion e, hF.rows h1⟩
  | round _ _ _ _ _ => exact h1.elim
  | _ => first | exact h1 | exact h1.elim
 | halt s w' => cases s <;> first | exact h1 | exact h1.elim
theorem CI.seq {x y : Code} (h : CI F k P x (Exit.then (y.wpIn F k P Q) Q) N env w) : CI F k P (.seq x y) Q N env w := fun a ha => wpIn_seq (h a ha)
theorem CI.cond_t {c : Operand} {x y : Code} (hc : Ev env c (.bool true)) (h : CI F k P x Q N env w) : CI F k P (.cond c x y) Q N env w := fun a ha => wpIn_cond_true (ha.eval hc) (h a ha)
theorem CI.cond_f {c : Operand} {x y : Code} (hc : Ev env c (.bool false)) (h : CI F k P y Q N env w) : CI F k P (.cond c x y) Q N env w := fun a ha => wpIn_cond_false (ha.eval hc) (h a ha)
theorem CI.block {id : Nat} {c : Code} (h : CI F k P c (Exit.inBlock id Q) N env w) : CI F k P (.block id c) Q N env w := fun a ha => wpIn_block (h a ha)
theorem CI.skip (h : QG Q .normal N env w) : CI F k P .skip Q N env w := fun a ha => wpIn_skip (h a ha)
theorem CI.list {id : Nat} {l : List Oper} (h : GI F k P l.toArray Q N w l env) : CI F k P (.region id l.toArray false) Q N env w := fun a ha => wpIn_region_lit (h a ha)
theorem QG.codeI {y : Code} {Q' : Exit → Act → World → Prop} (h : CI F k P y Q' N env w) : QG (Exit.then (y.wpIn F k P Q') Q) .normal N env w := h
/-- Outside of rounds both are one. -/
theorem CI.wide {c : Code} (h : CG P c Q N env w) : CI Fence.wide k P c Q N env w := fun a ha => wpIn_wide.2 (h a ha)
theorem CG.wide {c : Code} (k : Nat) (h : CI Fence.wide k P c Q N env w) : CG P c Q N env w := fun a ha => wpIn_wide.1 (h a ha)
/-- A call of yield. -/
theorem GI.yield {n l : Nat} {x : Operand} {xs : List Operand} {ts : Array TypeId} {vs : List Value} {R : Ending → World → Prop} (hF : WF F) (hd : o.dst = some n) (hn : Nat.blt n N = true) (hw : want ops env o = some true) (ho : o.op = .call { callee := .value x, args := xs.toArray, argTypes := ts })
  (hx : Ev env x (.func (.yield l) #[] #[])) (hxs : EvL env xs vs) (hY : YieldAt F (k - 1) P l vs.toArray w R) (h : ∀ e w', R e w' → ∃ v, e = .returned v ∧ GI F k P ops Q N w' rest ((n, v) :: env)) : GI F k P ops Q N w (o :: rest) env := by
 obtain ⟨fn, tmps, assign, body, hy, hR⟩ := hY
 intro a ha
 refine wpListIn_want (wanted_of ha hw) fun K hK => ⟨fun f _ => hF.f f, ?_⟩
 have hr : (execOp a.eval o).run P w = .ok (.round l fn tmps assign body) w := by
  have e := ha.evalL hxs
  have e1 := ha.eval hx
  generalize a.eval = ρ at e e1 ⊢
  unfold execOp; rw [ho]
  simp [go_sem, e, e1, hy]
 rw [semAt_any (by rw [ho]; rfl), hr]
 refine ⟨fun e => by rw [hF.d] at e; exact Bool.noConfusion e, hR.mono ?_⟩
 intro e w' hRe
 obtain ⟨v, rfl, hg⟩ := h e w' hRe
 show K (a.put o.dst v) w'
 rw [hd]
 exact hK _ _ (hg _ (ha.put v (by simpa [Nat.blt_eq] using hn)))
/-- A function value is made of a function and what it has captured. -/
theorem Runs.makeFunc {f : FuncId} {xs : List Operand} {vs : List Value} (ho : o.op = .makeFunc (.func f) #[] xs.toArray) (hx : EvL env xs vs) : Runs P N env o w (.func (.func f) #[] vs.toArray) := fun a w' ha hw => by
 have e := ha.evalL hx
 generalize a.eval = ρ at e ⊢
 unfold execOp; rw [ho]
 simp [go_sem, e]
/-- A call of a function value. -/
theorem ST.callV {x : Operand} {f : FuncId} {cap : List Value} {xs : List Operand} {ts : Array TypeId} {vs : List Value} {K : Value → World → Prop}
  (ho : o.op = .call { callee := .value x, args := xs.toArray, argTypes := ts }) (hf : ∀ args W, (callFunc f args).run P W = .ok (.enter f args) W) (hx : Ev env x (.func (.func f) #[] cap.toArray)) (hxs : EvL env xs vs)
  (hc : Calls P f (vs ++ cap).toArray w (fun e w' => ∃ v, e = .returned v ∧ K v w')) : ST P Q N env w o K := by
 intro a ha Kc hK
 have hr : (execOp a.eval o).run P w = .ok (.enter f (vs ++ cap).toArray) w := by
  have e := ha.evalL hxs
  have e1 := ha.eval hx
  generalize a.eval = ρ at e e1 ⊢
  unfold execOp; rw [ho]
  simp [go_sem, e, e1, hf]
 unfold Oper.wp
 rw [hr]
 refine hc.mono ?_
 rintro e w' ⟨v, rfl, h⟩
 exact hK _ _ h
theorem QG.result0 {fn : Func} {R : Ending → World → Prop} (hf : fn.results = #[]) (h : R (.returned (.tuple #[])) w) : QG (bodyPost P fn R) .ret N env w := by
 intro a ha
 exact ⟨ha.defers, .tuple #[], results_none hf _ _ _, h⟩
theorem QG.result_n0 {fn : Func} {R : Ending → World → Prop} (hf : fn.results = #[]) (h : R (.returned (.tuple #[])) w) : QG (bodyPost P fn R) .normal N env w := by
 intro a ha
 exact ⟨ha.defers, .tuple #[], results_none hf _ _ _, h⟩
end
end Go.Proofs.Ytkjefnlhhfpllaa.E
namespace Go.Proofs.Ytkjefnlhhfpllaa.E
open Go.RowKit Go.Proofs.YtkjefnlhhfpllaaW.PrintWords Go.Proofs.YtkjefnlhhfpllaaW.PrintMore
open Go.Proofs.Ytkjefnlhhfpllaa.T
set_option linter.unusedVariables false
set_option linter.unusedSimpArgs false
section
variable {F : Fence} {k : Nat} {P : Program} {ops : Array Oper} {Q : Exit → Act → World → Prop} {N : Nat} {w : World} {rest : List Oper} {env : Env} {o : Oper}
theorem enterM {f : FuncId} {fn : Func} {c : Code} {args : List Value} {R : Ending → World → Prop} (k : Nat) (hf : P.funcs[f]? = some fn) (hb : fn.body = some c) (hn : fn.ntmps = N) (hl : args.length ≤ N) (h : CI Fence.wide k P c (bodyPostM Fence.wide k P fn R) N (argEnv 0 args) w) : Calls P f args.toArray w R := by
 refine (callsIn_wide (n := k)).1 (callsIn_of_wp_marks hf hb trivial (h _ ⟨?_, rfl, ?_⟩))
 ·simp [hn]; omega
 ·intro n v hv
  obtain ⟨_, h2⟩ := look_argEnv args 0 n v hv
  have hlt := (List.getElem?_eq_some_iff.1 h2).1
  simp only [Nat.sub_zero] at h2 hlt
  show (args.toArray ++ Array.replicate _ undef)[n]? = some v
  rw [Array.getElem?_append_left (by simpa using hlt)]
  simpa using h2
/-- A variable of one cell is made. -/
theorem ST.allocZ {t : TypeId} {z : Value} {cs : Array Value} {K : Value → World → Prop} (ho : o.op = .alloc t) (hz : (P.info? t).map (·.zero) = some (some z)) (hc : z.cells = cs)
  (h : ∀ g w1, g = w.heap.size → w1.heap[g]? = some (.cells cs t (0, 0)) → Below w.heap.size w w1 → K (.pointer (some ⟨g, 0, none⟩)) w1) : ST P Q N env w o K := by
 refine ST.ev (v := .pointer (some ⟨w.heap.size, 0, none⟩)) (w1 := w.alloc (.cells cs t (0, 0))) (fun a ha => ?_) (h _ _ rfl (blk_new w _) (below_alloc (Below.refl _ _) _))
 cases hq : P.info? t with
 | none => simp [hq] at hz
 | some i =>
  have hi : i.zero = some z := by simpa [hq] using hz
  subst hc
  unfold execOp; rw [ho]
  simp [go_sem, zeroValue, typeInfo, hq, hi]
/-! #### frames that have something to do at their end -/
def QD (Q : Exit → Act → World → Prop) (e : Exit) (N : Nat) (env : Env) (ds : List Deferred) (w : World) : Prop := ∀ a, Holds N a env → Q e { a with defers := ds } w
def CD (F : Fence) (k : Nat) (P : Program) (c : Code) (Q : Exit → Act → World → Prop) (N : Nat) (env : Env) (ds : List Deferred) (w : World) : Prop := ∀ a, Holds N a env → c.wpIn F k P Q { a with defers := ds } w
def GD (F : Fence) (k : Nat) (P : Program) (ops : Array Oper) (Q : Exit → Act → World → Prop) (N : Nat) (ds : List Deferred) (w : World) (rest : List Oper) (env : Env) : Prop := ∀ a, Holds N a env → wpListIn F k P ops Q rest { a with defers := ds } w
variable {ds : List Deferred}
theorem QD.codeI {y : Code} {Q' : Exit → Act → World → Prop} (h : CD F k P y Q' N env ds w) : QD (Exit.then (y.wpIn F k P Q') Q) .normal N env ds w := h
theorem QD.block_normal {id : Nat} (h : QD Q .normal N env ds w) : QD (Exit.inBlock id Q) .normal N env ds w := h
theorem CD.seq {x y : Code} (h : CD F k P x (Exit.then (y.wpIn F k P Q) Q) N env ds w) : CD F k P (.seq x y) Q N env ds w := fun a ha => wpIn_seq (h a ha)
theorem CD.list {id : Nat} {l : List Oper} (h : GD F k P l.toArray Q N ds w l env) : CD F k P (.region id l.toArray false) Q N env ds w := fun a ha => wpIn_region_lit (h a ha)
theorem CD.ret (h : QD Q .ret N env ds w) : CD F k P .ret Q N env ds w := fun a ha => wpIn_ret (h a ha)
theorem GD.done (h : QD Q .normal N env ds w) : GD F k P ops Q N ds w [] env := fun a ha => h a ha
theorem GD.run {n : Nat} {v : Value} (hF : WF F) (hnd : noDefer o.op = true) (hd : o.dst = some n) (hn : Nat.blt n N = true) (hw : want ops env o = some true) (hr : Runs P N env o w v) (h : GD F k P ops Q N ds w rest ((n, v) :: env)) : GD F k P ops Q N ds w (o :: rest) env := by
 intro a ha
 refine wpListIn_want (wanted_of ha hw) fun K hK => ⟨fun f _ => hF.f f, ?_⟩
 rw [semAt_any hnd, show (execOp ({ a with defers := ds } : Act).eval o).run P w = (execOp a.eval o).run P w from rfl, hr a w ha rfl]
 show K (({ a with defers := ds } : Act).put o.dst v) w
 rw [hd]
 exact hK _ _ (h _ (ha.put v (by simpa [Nat.blt_eq] using hn)))
/-- An operation writes. -/
def Writes (P : Program) (N : Nat) (env : Env) (o : Oper) (w w1 : World) : Prop := ∀ a, Holds N a env → (execOp a.eval o).run P w = .ok .skip w1
theorem GD.sn {w1 : World} (hF : WF F) (hnd : noDefer o.op = true) (hd : o.dst = none) (hw : want ops env o = some true) (hr : Writes P N env o w w1) (h : GD F k P ops Q N ds w1 rest env) : GD F k P ops Q N ds w (o :: rest) env := by
 intro a ha
 refine wpListIn_want (wanted_of ha hw) fun K hK => ⟨fun f _ => hF.f f, ?_⟩
 rw [semAt_any hnd, show (execOp ({ a with defers := ds } : Act).eval o).run P w = (execOp a.eval o).run P w from rfl, hr a ha]
 show K (({ a with defers := ds } : Act).put o.dst undef) w1
 rw [hd]
 exact hK _ _ (h _ ha)
/-- The function returns behind a range: what the range laid is taken up. -/
theorem QD.result2 {fn : Func} {R : Ending → World → Prop} {D : Nat} {t u : Tmp} {v x : Value} (hk : w.heap[D]? = some (.deferred (some []))) (hf : fn.results = #[.tmp t, .tmp u]) (hv : look env t = some v) (hx : look env u = some x) (h : R (.returned (.tuple #[v, x])) (w.putObj D (.deferred none))) :
  QD (bodyPostM F k P fn R) .ret N env [{ target := .collected D, args := #[] }] w := by
 intro a ha
 refine ⟨by simp, .inl ⟨_, _, rfl, run_takeDeferred hk, ?_⟩⟩
 have e1 : a.tmps.getD t undef = v := ha.eval (x := .tmp t) hv
 have e2 : a.tmps.getD u undef = x := ha.eval (x := .tmp u) hx
 refine ⟨.tuple #[v, x], ?_, h⟩
 show (results fn a.tmps).run P _ = _
 rw [results_tmp2 hf, e1, e2]
/-- A range over a function. -/
theorem CI.range {α γ : Type} {g : Operand} {ps : Array Tmp} {assign body : Code} {gf : Nat} {lb : Array Value} {encs : α → Array Value} {S Sp : List α → Prop} {Mx : Nat} {w0 : World} {Kp : World → World → Prop}
  (h1 : 1 ≤ k) (hg : Ev env g (.func (.func gf) #[] lb)) (eg : ∀ args w, (callFunc gf args).run P w = .ok (.enter gf args) w)
  (hseq : SeqStopsK Fence.wide (k - 1) P gf lb encs Kp S Sp Mx w0) (hKt : ∀ {A B C : World}, Kp A B → Kp B C → Kp A C) (hKb : ∀ (W : World) (l : Nat) (o o' : Obj), w.heap.size ≤ l → W.heap[l]? = some o → o.isCells = false → o.isWalk = false → Kp W (W.putObj l o')) (hb0 : Below w0.heap.size w0 w) (hps : ∀ x, (encs x).size = ps.size)
  (I : List α → World → Prop) (hI : OwnFrom w.heap.size I) (h0 : I [] w) (envP : α → Env) (hP : ∀ x a, Holds N a env → Holds N { tmps := (ps.zip (encs x)).foldl (fun t (p, v) => t.setIfInBounds p v) a.tmps, defers := [] } (envP x))
  (envB : α → γ → Env) (RB : α → γ → World → Prop) (hRB : ∀ x c, OwnFrom w.heap.size (fun (_ : Unit) W => RB x c W))
  (hassign : ∀ (l : Nat) (pre : List α) (x : α) (W : World) (K : Act → World → Prop), I pre W → (∀ c W', KeepsFrom w.heap.size W W' → Kp W W' → I pre W' → RB x c W' → ∀ a', Holds N a' (envB x c) → K a' W') → CI (Fence.wide.inRound l) (k - 1 - 1) P assign (Exit.then K (fun _ _ _ => False)) N (envP x) W)
  (hbody : ∀ (l : Nat) (pre : List α) (x : α) (c : γ) (W : World), I pre W → RB x c W → pre.length < Mx → CI (Fence.wide.inRound l) (k - 1 - 1) P body (ownPostG w.heap.size Kp I (fun _ _ _ => False) (pre ++ [x]) W) N (envB x c) W)
  (hdone : ∀ (D : Nat) (xs : List α) (W : World), w.heap.size ≤ D → S xs → I xs W → W.heap[D]? = some (.deferred (some [])) → QD Q .normal N env [{ target := .collected D, args := #[] }] W) :
  CI Fence.wide k P (.rangeFunc g ps assign body) Q N env w := by
 intro a ha
 refine wpIn_rangeFunc_ownH rfl h1 (ha.eval hg) trivial eg hseq hKt hKb hb0 hps I (fun _ _ _ => False) hI (fun c _ _ _ _ hs _ _ => hs) h0
  (fun x a' W => ∃ c, Holds N a' (envB x c) ∧ RB x c W) (fun x a' s A B row hs hgr hrow => ?_) (fun l pre x W K hi hK => ?_) (fun l pre x a' W _ _ hi hx hlt => ?_) (fun D xs W hD hs hi hk => ?_) (fun D c pre W _ _ h _ => h.elim)
 ·obtain ⟨c, q1, q2⟩ := hs
  exact ⟨c, q1, hRB x c () A B row q2 hgr hrow⟩
 ·exact hassign l pre x W K hi (fun c W' q1 q2 q3 q4 a' q5 => hK a' W' q1 q2 q3 ⟨c, q5, q4⟩) _ (hP x a ha)
 ·obtain ⟨c, q1, q2⟩ := hx
  exact hbody l pre x c W hi q2 hlt a' q1
 ·have := hdone D xs W hD hs hi hk a ha
  rw [ha.defers]
  exact this
end
end Go.Proofs.Ytkjefnlhhfpllaa.E
namespace Go.Proofs.Ytkjefnlhhfpllaa.E
open Go.RowKit Go.Proofs.YtkjefnlhhfpllaaW.PrintWords Go.Proofs.YtkjefnlhhfpllaaW.PrintMore
open Go.Proofs.Ytkjefnlhhfpllaa.T
set_option linter.unusedVariables false
section
variable {P : Program} {Q : Exit → Act → World → Prop} {N : Nat} {w : World} {env : Env} {o : Oper}
theorem ST.boxZ {t : TypeId} {x : Operand} {v : Value} {cs : Array Value} {K : Value → World → Prop} (ho : o.op = .box t x) (hx : Ev env x v) (hc : v.cells = cs)
  (h : ∀ g w1, g = w.heap.size → w1.heap[g]? = some (.cells cs t (0, 0)) → Below w.heap.size w w1 → K (.pointer (some ⟨g, 0, none⟩)) w1) : ST P Q N env w o K := by
 refine ST.ev (v := .pointer (some ⟨w.heap.size, 0, none⟩)) (w1 := w.alloc (.cells cs t (0, 0))) (fun a ha => ?_) (h _ _ rfl (blk_new w _) (below_alloc (Below.refl _ _) _))
 subst hc
 unfold execOp; rw [ho]; simp only []; rw [ha.eval hx]
 simp [go_sem]
end
end Go.Proofs.Ytkjefnlhhfpllaa.E
namespace Go.Proofs.Ytkjefnlhhfpllaa.E
open Go.RowKit Go.Proofs.YtkjefnlhhfpllaaW.PrintWords Go.Proofs.YtkjefnlhhfpllaaW.PrintMore
open Go.Proofs.Ytkjefnlhhfpllaa.T
set_option linter.unusedVariables false
set_option linter.unusedSimpArgs false
section
variable {P : Program} {Q : Exit → Act → World → Prop} {N : Nat} {w : World} {env : Env} {o : Oper} {K : Value → World → Prop}
theorem Runs.nilCheck {x : Operand} {p : Addr} (ho : o.op = .nilCheck x) (hx : Ev env x (.pointer (some p))) : Runs P N env o w (.pointer (some p)) := fun a w' ha hw => by
 unfold execOp; rw [ho]; simp only []; rw [ha.eval hx]
 simp [go_sem]
/-- append(v, x), and where the row lies behind it. -/
theorem ST.appendW {α : Type} (d : Kd α) {w0 : World} (base : Nat) {W : World} {s x : Operand} {t e : TypeId} {z : Value} {bytes : Nat}
  (ho : o.op = .call { callee := .builtin .append, args := #[s, x], argTypes := #[t, t] })
  (ht : P.underlying t = some (.slice e)) (hinfo : (P.info? e).map (fun i => (i.zero, i.size, i.bytes)) = some (some z, d.sz, bytes)) (hz : z.cells.size = d.sz) (hs0 : 0 < d.sz) (hb0 : 0 < bytes)
  {v : Value} {xs : List α} (p : α) {cs : List Value} {ok : Nat → Prop} (hs : Ev env s v) (hx : Ev env x (.slice (some ⟨W.heap.size, 0, none⟩) 1 1)) (hp : d.M W base (fun _ => False) p cs) (hfresh : ∀ k, W.heap.size ≤ k → ok k)
  (HO : d.R e W base ok v xs) (HB : Below base w0 W) (hbase : base ≤ W.heap.size) (hl : (xs.length + 1) * bytes ≤ 140737488355328)
  (h : ∀ v1 w1, d.R e w1 base ok v1 (xs ++ [p]) → Below base w0 w1 → W.grownBy w1 v.ownBlock → (v1.ownBlock = v.ownBlock ∨ ∃ b, v1.ownBlock = some b ∧ W.heap.size ≤ b) → K v1 w1) : ST P Q N env (W.alloc (.cells cs.toArray e)) o K := by
 intro a ha Kc hK
 have h0 : Region.wanted { o with guard := none } (yielded #[] a.tmps) = true := rfl
 have := Kd.R_append_step (P := P) (ops := #[]) (o := { o with guard := none }) (a := a) (Q := Q) (Kc := Kc) d base h0 s x t e z bytes ho ht hinfo hz hs0 hb0 v xs p cs ok (fun _ => False) (ha.eval hs) (ha.eval hx) hp (fun _ hk => hk.elim) hfresh HO HB hbase hl (fun v1 w1 h1 h2 h3 h4 => hK _ _ (h v1 w1 h1 h2 h3 h4))
 rw [if_pos h0] at this
 exact this
/-- One cell is written: a truth value, or a slice. -/
theorem ST.storeC {ty : TypeId} {x y : Operand} {b off : Nat} {v old : Value} (ho : o.op = .store ty x y) (hz : Sized P ty) (hz1 : P.cellsOf ty = 1) (hx : Ev env x (.pointer (some ⟨b, off, none⟩))) (hy : Ev env y v) (hv : (∃ t, v = .bool t) ∨ ∃ A n c, v = .slice A n c)
  (h1 : w.cell? ⟨b, off, none⟩ = some old) (h2 : w.frozen? ⟨b, off, none⟩ = false) (h : K undef (w.setCell ⟨b, off, none⟩ v)) : ST P Q N env w o K := by
 intro a ha Kc hK
 have hr : (execOp a.eval o).run P w = .ok .skip (w.setCell ⟨b, off, none⟩ v) := by
  unfold execOp; rw [ho]; simp only []; rw [ha.eval hx, ha.eval hy]
  obtain ⟨inf, q1, q2⟩ := hz
  rcases hv with ⟨t, rfl⟩ | ⟨A, n, c, rfl⟩ <;> simp [go_sem, run_sizeOf w q1, hz1, h1, h2]
 unfold Oper.wp
 rw [hr]
 exact hK _ _ h
end
end Go.Proofs.Ytkjefnlhhfpllaa.E
namespace Go.Proofs.Ytkjefnlhhfpllaa.E
open Go.RowKit Go.Proofs.YtkjefnlhhfpllaaW.PrintWords Go.Proofs.YtkjefnlhhfpllaaW.PrintMore
open Go.Proofs.Ytkjefnlhhfpllaa.T
set_option linter.unusedVariables false
set_option linter.unusedSimpArgs false
section
variable {P : Program} {Q : Exit → Act → World → Prop} {N : Nat} {w : World} {env : Env} {o : Oper} {K : Value → World → Prop}
end
end Go.Proofs.Ytkjefnlhhfpllaa.E
namespace Go.Proofs.Ytkjefnlhhfpllaa.E
open Go.RowKit Go.Proofs.YtkjefnlhhfpllaaW.PrintWords Go.Proofs.YtkjefnlhhfpllaaW.PrintMore
open Go.Proofs.Ytkjefnlhhfpllaa.T
set_option linter.unusedVariables false
set_option linter.unusedSimpArgs false
section
variable {P : Program} {ops : Array Oper} {Q : Exit → Act → World → Prop} {b : Nat} {S1 S0 : World → Prop}
/-- An operation that b waits for may be taken first: what it leaves is told in the worlds before b. -/
theorem J_first1t {i m : Nat} {oi om ob : Oper} {v : Value} (hi : ops[i]? = some oi) (hib : i ≠ b) (hob : ops[b]? = some ob) (hbm : ∃ e ∈ ob.after, Region.binds .any e = true ∧ e.on = m) (hom : ops[m]? = some om) (hmi : ∃ e ∈ om.after, Region.binds .any e = true ∧ e.on = i) (hmI : m ≠ i) (hsel : ∀ (j : Nat) (o : Oper) cs c, ops[j]? = some o → o.op ≠ .select cs c)
  (hQ : ∀ c a w, Q (.panic c) (a.put oi.dst v) w → Q (.panic c) a w) :
  ∀ (fuel : Nat) (L : Array Bool) (a : Act) (w : World), L.getD b false = false → L.getD m false = false → m < L.size →
   (∀ j oj, ops[j]? = some oj → j ≠ i → L.getD j true = false → (∀ e ∈ oj.after, Region.binds .any e = true → e.on ≠ i) → oi.apart ops oj = true) →
   i ∈ Region.ready .any ops L → YieldsIf P ops S1 oi v a → S1 w →
   wpAnyJ P ops Q b S1 S0 fuel (L.setIfInBounds i true) (a.put oi.dst v) w → wpAnyJ P ops Q b S1 S0 (fuel + 1) L a w := by
 intro fuel
 induction fuel with
 | zero =>
  intro L a w hb _ _ _ hr hy hS H
  refine ⟨fun h => (by rw [h] at hr; cases hr), fun j hj => ?_⟩
  by_cases hji : j = i
  ·subst hji; exact hy.wpOp hi hS ⟨(SJ.same hib).mpr ((SJ.before hb).mpr hS), H⟩
  ·have := ready_mono hj hji
   rw [H.1] at this
   cases this
 | succ fuel ih =>
  intro L a w hb hm hms hfree hr hy hS H
  refine ⟨fun h => (by rw [h] at hr; cases hr), fun j hj => ?_⟩
  by_cases hji : j = i
  ·subst hji; exact hy.wpOp hi hS ⟨(SJ.same hib).mpr ((SJ.before hb).mpr hS), H⟩
  ·have h1 := H.2 j (ready_mono hj hji)
   obtain ⟨hjun, oj, hoj, hall⟩ := mem_ready.1 hj
   have h0 := (mem_ready.1 hr).1
   have nol : ∀ k, k = i → L.getD k false = true → False := fun k hk h' => by
    subst hk
    rcases Nat.lt_or_ge k L.size with h2 | h2
    ·simp [h2] at h0 h'; rw [h0] at h'; cases h'
    ·simp [Array.getElem?_eq_none h2] at h'
   have hjm : j ≠ m := fun e => by
    subst e
    rw [hom] at hoj
    cases hoj
    obtain ⟨e, he, hbe, heq⟩ := hmi
    exact nol _ heq (hall e he hbe)
   have hjb : j ≠ b := fun e => by
    subst e
    rw [hob] at hoj
    cases hoj
    obtain ⟨e, he, hbe, heq⟩ := hbm
    have h5 := hall e he hbe
    rw [heq] at h5
    simp [hms] at h5 hm
    rw [hm] at h5
    cases h5
   have hnot : ∀ e ∈ oj.after, Region.binds .any e = true → e.on ≠ i := fun e he hbe heq => nol _ heq (hall e he hbe)
   have h2 := wpOp_putIf hoj (hfree j oj hoj hji hjun hnot) (fun cs c => hsel i oi cs c hi) (fun cs c => hsel j oj cs c hoj) hQ hy h1
   have hfree' : ∀ k ok, ops[k]? = some ok → k ≠ i → (L.setIfInBounds j true).getD k true = false → (∀ e ∈ ok.after, Region.binds .any e = true → e.on ≠ i) → oi.apart ops ok = true := fun k ok hk hki hun hno => by
    refine hfree k ok hk hki ?_ hno
    by_cases hjk : j = k
    ·subst hjk; exact hjun
    ·rw [getD_set_ne true hjk] at hun; exact hun
   have hbj : (L.setIfInBounds j true).getD b false = false := by rw [getD_set_ne false hjb]; exact hb
   refine wpOp_mono (fun a' w' h3 => ?_) h2
   have hs1 : S1 w' := by
    have := h3.2.1
    rw [SJ.same hjb, SJ.same hib, SJ.before hb] at this
    exact this
   refine ⟨(SJ.before hbj).mpr hs1, ih (L.setIfInBounds j true) a' w' hbj (by rw [getD_set_ne false hjm]; exact hm) (by simpa using hms) hfree' (ready_mono hr (Ne.symm hji)) h3.1 hs1 ?_⟩
   rw [Array.setIfInBounds_comm _ _ hji]
   exact h3.2.2
variable {N : Nat} {w : World} {env : Env} {o : Oper} {fuel : Nat} {L : Array Bool}
theorem GJ.take1t {i n : Nat} (m : Nat) {v : Value} {om ob : Oper} (hi : ops[i]? = some o) (hs : Region.noSelect ops = true) (hf : Region.free .any ops L i = true) (hr : (Region.ready .any ops L).contains i = true) (hib : (i == b) = false) (hob : ops[b]? = some ob) (hbm : (ob.after.any fun e => Region.binds .any e && e.on == m) = true) (hom : ops[m]? = some om) (hmi : (om.after.any fun e => Region.binds .any e && e.on == i) = true) (hmI : (m == i) = false) (hLb : L.getD b false = false) (hLm : L.getD m false = false) (hms : Nat.blt m L.size = true)
  (hQ : Calm Q) (hd : o.dst = some n) (hn : Nat.blt n N = true) (hw : want ops env o = some true) (hy : ∀ w', S1 w' → Runs P N env o w' v) (h : GJ P ops Q b S1 S0 N fuel (L.setIfInBounds i true) ((n, v) :: env) w) : GJ P ops Q b S1 S0 N (fuel + 1) L env w := by
 intro a ha hS
 have hib' : i ≠ b := by simpa using hib
 obtain ⟨e, he, hbe⟩ := Array.any_eq_true'.1 hbm
 simp only [Bool.and_eq_true, beq_iff_eq] at hbe
 obtain ⟨e2, he2, hbe2⟩ := Array.any_eq_true'.1 hmi
 simp only [Bool.and_eq_true, beq_iff_eq] at hbe2
 have hS1 := (SJ.before hLb).mp hS
 refine J_first1t hi hib' hob ⟨e, he, hbe.1, hbe.2⟩ hom ⟨e2, he2, hbe2.1, hbe2.2⟩ (by simpa using hmI) (Region.noSelect_spec hs) (fun c a w => hQ c a _ v w) fuel L a w hLb hLm (by simpa [Nat.blt_eq] using hms) (Region.free_spec hi hf) (by simpa using hr) (.inl ⟨wanted_of ha hw, fun w' hw' => hy w' hw' a w' ha rfl⟩) hS1 ?_
 rw [hd]
 exact h _ (ha.put v (by simpa [Nat.blt_eq] using hn)) ((SJ.same hib').mpr hS)
end
end Go.Proofs.Ytkjefnlhhfpllaa.E
namespace Go.Proofs.Ytkjefnlhhfpllaa.E
open Go.RowKit Go.Proofs.YtkjefnlhhfpllaaW.PrintWords Go.Proofs.YtkjefnlhhfpllaaW.PrintMore
open Go.Proofs.Ytkjefnlhhfpllaa.T
set_option linter.unusedVariables false
set_option linter.unusedSimpArgs false
/-- How keys of a type are found. -/
structure KeyT {κ : Type} (P : Program) (k : TypeId) (ek : κ → Value) : Prop where
 inj : ∀ {x y : κ}, ek x = ek y → x = y
 check : ∀ (em : Bool) (x : κ) (W : World), (Instr.checkKey em 10000 k (ek x)).run P W = .ok () W
 find : ∀ (x : κ) (es : List MapEntry) (W : World), (∀ e ∈ es, ∃ y, e.key = ek y) →
  ((Instr.findKey k (ek x) es).run P W = .ok none W ∧ ∀ e ∈ es, e.key ≠ ek x) ∨ ∃ j e, (Instr.findKey k (ek x) es).run P W = .ok (some (j, e.val)) W ∧ es[j]? = some e ∧ e.key = ek x
 stays : ∀ (x : κ) (W : World), (Instr.keyThatStays (ek x) (ek x)).run P W = .ok (ek x) W
theorem KeyT.int {P : Program} {k : TypeId} {q : IntKind} (hu : P.underlying k = some (.int q)) : KeyT P k (fun n : Int => Value.int q n) := by
 refine ⟨fun h => by injection h, fun em x W => MapKept.run_checkKey hu (by simp [MapKept.IsKey]) em 9999, fun x es W hes => ?_, fun x W => by simp [Instr.keyThatStays, Instr.sameBits]⟩
 rcases MapKept.findNow_spec (d := .int q) (k := .int q x) (by simp [MapKept.IsKey]) es 0 (fun e he => by
  obtain ⟨y, hy⟩ := hes e he
  rw [hy]
  simp [MapKept.IsKey]) with ⟨h1, h2⟩ | ⟨j, e, h1, h2, h3⟩
 ·exact .inl ⟨MapKept.run_findKey hu h1, h2⟩
 ·exact .inr ⟨j, e, MapKept.run_findKey hu (by simpa using h1), h2, h3⟩
section
variable {κ ν : Type} [DecidableEq κ]
def getL (l : List (κ × ν)) (x : κ) : Option ν := (l.find? (fun p => decide (p.1 = x))).map (·.2)
theorem getL_none {l : List (κ × ν)} {x : κ} (h : ∀ p ∈ l, p.1 ≠ x) : getL l x = none := by
 unfold getL
 rw [List.find?_eq_none.mpr (fun p hp => by simpa using h p hp)]
 rfl
theorem getL_at : ∀ {l : List (κ × ν)} {x : κ} {v : ν} {j : Nat}, (l.map (·.1)).Nodup → l[j]? = some (x, v) → getL l x = some v
 | [], _, _, _, _, h => by simp at h
 | p :: l, x, v, 0, hn, h => by
  simp at h
  subst h
  simp [getL]
 | p :: l, x, v, j + 1, hn, h => by
  rw [List.map_cons, List.nodup_cons] at hn
  have hm : (x, v) ∈ l := List.mem_of_getElem? (by simpa using h)
  have hne : p.1 ≠ x := fun q => hn.1 (List.mem_map.mpr ⟨_, hm, q.symm⟩)
  have := getL_at (j := j) hn.2 (by simpa using h)
  unfold getL at this ⊢
  rw [List.find?_cons_of_neg (by simpa using hne)]
  exact this
theorem getL_some {l : List (κ × ν)} {x : κ} {v : ν} (h : getL l x = some v) : (x, v) ∈ l := by
 unfold getL at h
 obtain ⟨p, hp, hv⟩ := Option.map_eq_some_iff.mp h
 have h1 := List.mem_of_find?_eq_some hp
 have h2 := List.find?_some hp
 simp at h2
 subst h2 hv
 exact h1
theorem getL_append {l : List (κ × ν)} {x y : κ} {v : ν} (h : ∀ p ∈ l, p.1 ≠ x) : getL (l ++ [(x, v)]) y = if y = x then some v else getL l y := by
 by_cases q : y = x
 ·subst q
  rw [if_pos rfl]
  unfold getL
  rw [List.find?_append, List.find?_eq_none.mpr (fun p hp => by simpa using h p hp)]
  simp
 ·rw [if_neg q]
  unfold getL
  rw [List.find?_append]
  have : ([(x, v)] : List (κ × ν)).find? (fun p => decide (p.1 = y)) = none := by simp [Ne.symm q]
  rw [this]
  simp
theorem getL_set : ∀ {l : List (κ × ν)} {j : Nat} {x y : κ} {u v : ν}, (l.map (·.1)).Nodup → l[j]? = some (x, u) → getL (l.set j (x, v)) y = if y = x then some v else getL l y
 | [], _, _, _, _, _, _, h => by simp at h
 | p :: l, 0, x, y, u, v, hn, h => by
  simp at h
  subst h
  simp only [List.set_cons_zero]
  unfold getL
  by_cases q : y = x
  ·subst q
   simp
  ·rw [if_neg q, List.find?_cons_of_neg (by simpa using Ne.symm q), List.find?_cons_of_neg (by simpa using Ne.symm q)]
 | p :: l, j + 1, x, y, u, v, hn, h => by
  rw [List.map_cons, List.nodup_cons] at hn
  have h' : l[j]? = some (x, u) := by simpa using h
  have hne : p.1 ≠ x := fun q => hn.1 (List.mem_map.mpr ⟨_, List.mem_of_getElem? h', q.symm⟩)
  have ih := getL_set (y := y) (v := v) hn.2 h'
  simp only [List.set_cons_succ]
  unfold getL at ih ⊢
  by_cases q : p.1 = y
  ·subst q
   rw [List.find?_cons_of_pos (by simp), List.find?_cons_of_pos (by simp), if_neg hne]
  ·rw [List.find?_cons_of_neg (by simpa using q), List.find?_cons_of_neg (by simpa using q)]
   exact ih
def upd (f : κ → Option ν) (x : κ) (v : ν) (y : κ) : Option ν := if y = x then some v else f y
/-- The entries of a map, and what it has at each key. -/
structure MfE (ek : κ → Value) (ev : ν → Value) (es : Array MapEntry) (clock : Nat) (l : List (κ × ν)) (f : κ → Option ν) : Prop where
 is : es.toList.map (fun e => (e.key, e.val)) = l.map (fun p => (ek p.1, ev p.2))
 lt : ∀ e ∈ es.toList, e.born < clock
 nb : (es.toList.map (·.born)).Nodup
 nd : (l.map (·.1)).Nodup
 get : ∀ x, getL l x = f x
/-- A map in memory. -/
def Mf (ek : κ → Value) (ev : ν → Value) (w : World) (g : Nat) (f : κ → Option ν) : Prop := ∃ es clock l, w.heap[g]? = some (.map es clock) ∧ MfE ek ev es clock l f
/-- .. and the entry of a key is the one that was made at a time. -/
def MfS (ek : κ → Value) (ev : ν → Value) (w : World) (g : Nat) (f : κ → Option ν) (s : Int) (x : κ) : Prop := ∃ es clock l, w.heap[g]? = some (.map es clock) ∧ MfE ek ev es clock l f ∧ ∃ (j : Nat) (e : MapEntry), es.toList[j]? = some e ∧ e.key = ek x ∧ (e.born : Int) = s
variable {ek : κ → Value} {ev : ν → Value} {P : Program} {k : TypeId} {w w' : World} {g : Nat} {f : κ → Option ν}
theorem Mf.heap (h : Mf ek ev w g f) (e : w'.heap = w.heap) : Mf ek ev w' g f := by unfold Mf at h ⊢; rw [e]; exact h
theorem Mf.grown {row : Option Nat} (h : Mf ek ev w g f) (k : w.grownBy w' row) (hn : some g ≠ row) : Mf ek ev w' g f := by
 obtain ⟨es, clock, l, hb, hE⟩ := h
 exact ⟨es, clock, l, (k.block g (Array.getElem?_eq_some_iff.1 hb).1 hn).trans hb, hE⟩
theorem Mf.below (h : Mf ek ev w g f) (k : Below w.heap.size w w') : Mf ek ev w' g f := by
 obtain ⟨es, clock, l, hb, hE⟩ := h
 exact ⟨es, clock, l, (k.block g (Array.getElem?_eq_some_iff.1 hb).1).trans hb, hE⟩
theorem Mf.lt (h : Mf ek ev w g f) : g < w.heap.size := by
 obtain ⟨es, clock, l, hb, hE⟩ := h
 exact (Array.getElem?_eq_some_iff.1 hb).1
theorem Mf.congr {f' : κ → Option ν} (h : Mf ek ev w g f) (e : ∀ x, f x = f' x) : Mf ek ev w g f' := by
 obtain ⟨es, clock, l, hb, hE⟩ := h
 exact ⟨es, clock, l, hb, hE.is, hE.lt, hE.nb, hE.nd, fun x => (hE.get x).trans (e x)⟩
theorem Mf.made (w : World) : Mf ek ev (w.alloc (.map #[] 0)) w.heap.size (fun _ => none) := ⟨#[], 0, [], (MapKept.heap_alloc w _).1, by simp, by simp, by simp, by simp, fun x => by simp [getL]⟩
theorem MfE.keys {es : Array MapEntry} {clock : Nat} {l : List (κ × ν)} (h : MfE ek ev es clock l f) : ∀ e ∈ es.toList, ∃ y, e.key = ek y := fun e he => by
 have : (e.key, e.val) ∈ l.map (fun p => (ek p.1, ev p.2)) := by rw [← h.is]; exact List.mem_map.mpr ⟨e, he, rfl⟩
 obtain ⟨p, hp, q⟩ := List.mem_map.mp this
 exact ⟨p.1, by injection q with q1 q2; exact q1.symm⟩
theorem MfE.at_ {es : Array MapEntry} {clock : Nat} {l : List (κ × ν)} (h : MfE ek ev es clock l f) (K : KeyT P k ek) {j : Nat} {e : MapEntry} {x : κ} (hj : es.toList[j]? = some e) (hk : e.key = ek x) : ∃ v, l[j]? = some (x, v) ∧ f x = some v ∧ e.val = ev v := by
 have h1 : (es.toList.map (fun e => (e.key, e.val)))[j]? = some (e.key, e.val) := by rw [List.getElem?_map, hj]; rfl
 rw [h.is, List.getElem?_map] at h1
 obtain ⟨p, hp, q⟩ := Option.map_eq_some_iff.mp h1
 injection q with q1 q2
 have : p.1 = x := K.inj (q1.trans hk)
 obtain ⟨p1, p2⟩ := p
 simp only at this q2
 subst this
 exact ⟨p2, hp, by rw [← h.get]; exact getL_at h.nd hp, q2.symm⟩
theorem MfE.no {es : Array MapEntry} {clock : Nat} {l : List (κ × ν)} (h : MfE ek ev es clock l f) {x : κ} (hn : ∀ e ∈ es.toList, e.key ≠ ek x) : (∀ p ∈ l, p.1 ≠ x) ∧ f x = none := by
 have h1 : ∀ p ∈ l, p.1 ≠ x := fun p hp q => by
  have : (ek p.1, ev p.2) ∈ es.toList.map (fun e => (e.key, e.val)) := by rw [h.is]; exact List.mem_map.mpr ⟨p, hp, rfl⟩
  obtain ⟨e, he, q2⟩ := List.mem_map.mp this
  injection q2 with q3 q4
  exact hn e he (by rw [q3, q])
 exact ⟨h1, by rw [← h.get]; exact getL_none h1⟩
theorem MfE.push {es : Array MapEntry} {clock : Nat} {l : List (κ × ν)} (h : MfE ek ev es clock l f) {x : κ} (hn : ∀ p ∈ l, p.1 ≠ x) (v : ν) : MfE ek ev (es.push { key := ek x, val := ev v, born := clock }) (clock + 1) (l ++ [(x, v)]) (upd f x v) := by
 refine ⟨by simp [h.is], fun e he => ?_, ?_, ?_, fun y => ?_⟩
 ·rw [Array.toList_push, List.mem_append] at he
  rcases he with he | he
  ·have := h.lt e he; omega
  ·simp at he; subst he; simp
 ·rw [Array.toList_push, List.map_append]
  refine List.nodup_append.mpr ⟨h.nb, by simp, fun a ha b hb => ?_⟩
  obtain ⟨e, he, rfl⟩ := List.mem_map.mp ha
  simp at hb
  have := h.lt e he
  omega
 ·rw [List.map_append]
  refine List.nodup_append.mpr ⟨h.nd, by simp, fun a ha b hb => ?_⟩
  obtain ⟨p, hp, rfl⟩ := List.mem_map.mp ha
  simp at hb
  subst hb
  exact hn p hp
 ·rw [getL_append hn]
  unfold upd
  rw [h.get]
theorem modify_list (es : Array MapEntry) (j : Nat) (F : MapEntry → MapEntry) {e : MapEntry} (hj : es.toList[j]? = some e) : (es.modify j F).toList = es.toList.set j (F e) := by
 have hlt := (List.getElem?_eq_some_iff.1 hj).1
 have he := (List.getElem?_eq_some_iff.1 hj).2
 rw [Array.toList_modify]
 apply List.ext_getElem
 ·simp
 ·intro i h1 h2
  rw [List.getElem_modify, List.getElem_set]
  by_cases q : j = i
  ·subst q
   simp [he]
  ·simp [q]
theorem set_same {α : Type} {l : List α} {j : Nat} {x : α} (h : l[j]? = some x) : l.set j x = l := by
 apply List.ext_getElem?
 intro i
 by_cases q : j = i
 ·subst q
  rw [List.getElem?_set_self (List.getElem?_eq_some_iff.1 h).1, h]
 ·rw [List.getElem?_set_ne q]
theorem MfE.put {es : Array MapEntry} {clock : Nat} {l : List (κ × ν)} (h : MfE ek ev es clock l f) (K : KeyT P k ek) {j : Nat} {e : MapEntry} {x : κ} (hj : es.toList[j]? = some e) (hk : e.key = ek x) (v : ν) (F : MapEntry → MapEntry) (hF : F e = { e with val := ev v }) :
  MfE ek ev (es.modify j F) clock (l.set j (x, v)) (upd f x v) := by
 obtain ⟨u, h1, h2, h3⟩ := h.at_ K hj hk
 have hl := modify_list es j F hj
 rw [hF] at hl
 have hb : (es.toList.set j { e with val := ev v }).map (·.born) = es.toList.map (·.born) := by
  rw [List.map_set]
  exact set_same (by rw [List.getElem?_map, hj]; rfl)
 refine ⟨?_, fun e' he' => ?_, ?_, ?_, fun y => ?_⟩
 ·rw [hl, List.map_set, h.is, List.map_set, hk]
 ·have hm : e'.born ∈ (es.toList.set j { e with val := ev v }).map (·.born) := by rw [← hl]; exact List.mem_map.mpr ⟨e', he', rfl⟩
  rw [hb] at hm
  obtain ⟨e2, he2, q⟩ := List.mem_map.mp hm
  rw [← q]
  exact h.lt e2 he2
 ·rw [hl, hb]
  exact h.nb
 ·rw [List.map_set, set_same (by rw [List.getElem?_map, h1]; rfl)]
  exact h.nd
 ·rw [getL_set h.nd h1]
  unfold upd
  rw [h.get]
theorem set_block {o o' : Obj} (h : w.heap[g]? = some o) : ({ w with heap := w.heap.setIfInBounds g o' } : World).heap[g]? = some o' ∧ w.grownBy { w with heap := w.heap.setIfInBounds g o' } (some g) := by
 obtain ⟨h1, h2⟩ := MapKept.heap_set (o' := o') h
 refine ⟨h1, rfl, rfl, rfl, by simp, fun k hk hne => ?_⟩
 exact h2 k (fun e => hne (by rw [e]))
/-- m[k] is read. -/
theorem Mf.lookup {t e : TypeId} {z : Value} (M : Mf ek ev w g f) (K : KeyT P k ek) (ht : P.underlying t = some (.map k e)) (hz : (zeroValue e).run P w = .ok z w) (x : κ) (c : Bool) :
  (Instr.lookup t (.map (some g)) (ek x) c).run P w = .ok (if c then .tuple #[((f x).map ev).getD z, .bool (f x).isSome] else ((f x).map ev).getD z) w := by
 obtain ⟨es, clock, l, hb, hE⟩ := M
 have hg := MapKept.run_getObj_map (P := P) hb
 rcases K.find x es.toList w hE.keys with ⟨h1, h2⟩ | ⟨j, e1, h1, h2, h3⟩
 ·rw [(hE.no h2).2]
  simp [Instr.lookup, Sem.run_bind, run_underlying ht, hg, K.check, h1, hz, Result.andThen]
 ·obtain ⟨v, q1, q2, q3⟩ := hE.at_ K h2 h3
  rw [q2]
  simp [Instr.lookup, Sem.run_bind, run_underlying ht, hg, K.check, h1, q3, Result.andThen]
/-- m[k] op= .., the first part. -/
theorem Mf.entry {t e : TypeId} {z : ν} (M : Mf ek ev w g f) (K : KeyT P k ek) (ht : P.underlying t = some (.map k e)) (hz : ∀ W, (zeroValue e).run P W = .ok (ev z) W) (x : κ) :
  ∃ w1 s, (Instr.mapEntry t (.map (some g)) (ek x)).run P w = .ok (.tuple #[ev ((f x).getD z), .int .i64 s]) w1 ∧ MfS ek ev w1 g (upd f x ((f x).getD z)) s x ∧ w.grownBy w1 (some g) := by
 obtain ⟨es, clock, l, hb, hE⟩ := M
 have hg := MapKept.run_getObj_map (P := P) hb
 rcases K.find x es.toList w hE.keys with ⟨h1, h2⟩ | ⟨j, e1, h1, h2, h3⟩
 ·obtain ⟨q1, q2⟩ := hE.no h2
  obtain ⟨s1, s2⟩ := set_block (w := w) (g := g) (o' := .map (es.push { key := ek x, val := ev z, born := clock }) (clock + 1)) hb
  refine ⟨_, (clock : Int), ?_, ⟨_, _, _, s1, by rw [q2]; exact hE.push q1 z, es.size, { key := ek x, val := ev z, born := clock }, by simp, rfl, rfl⟩, s2⟩
  rw [q2]
  simp [Instr.mapEntry, Sem.run_bind, run_underlying ht, hg, K.check, h1, hz, Result.andThen, MapKept.run_setObj_map _ hb, goInt]
 ·obtain ⟨v, q1, q2, q3⟩ := hE.at_ K h2 h3
  have h2' : es[j]? = some e1 := by simpa using h2
  obtain ⟨s1, s2⟩ := set_block (w := w) (g := g) (o' := .map (es.modify j fun e => { e with key := ek x }) clock) hb
  have hp := hE.put K h2 h3 v (fun e => { e with key := ek x }) (by rw [← h3, ← q3])
  refine ⟨_, (e1.born : Int), ?_, ⟨_, _, _, s1, by rw [q2]; exact hp, j, e1, ?_, h3, rfl⟩, s2⟩
  ·rw [q2]
   have hst := K.stays x w
   simp [Instr.mapEntry, Sem.run_bind, run_underlying ht, hg, K.check, h1, Result.andThen, MapKept.run_setObj_map _ hb, goInt, h2', h3, hst, q3]
  ·rw [modify_list es j _ h2, List.getElem?_set_self (List.getElem?_eq_some_iff.1 h2).1, ← h3]
theorem findIdx_born {es : Array MapEntry} (hn : (es.toList.map (·.born)).Nodup) {j : Nat} {e : MapEntry} (hj : es.toList[j]? = some e) : es.findIdx? (fun x => (x.born : Int) == (e.born : Int)) = some j := by
 have hlt := (List.getElem?_eq_some_iff.1 hj).1
 have he := (List.getElem?_eq_some_iff.1 hj).2
 rw [Array.findIdx?_eq_some_iff_getElem]
 refine ⟨by simpa using hlt, by simp at he; simp [he], fun i hi => ?_⟩
 have h1 : ¬ es.toList[i].born = es.toList[j].born := fun q => by
  have := (List.pairwise_iff_getElem.mp hn) i j (by simp; simp at hlt; omega) (by simpa using hlt) hi
  apply this
  simpa using q
 rw [he] at h1
 simpa using fun q => h1 (by exact_mod_cast q)
/-- .. and its second part. -/
theorem MfS.store {t : TypeId} {s : Int} {x : κ} (M : MfS ek ev w g f s x) (K : KeyT P k ek) (v : ν) :
  ∃ w1, (Instr.entryStore t (.map (some g)) (.int .i64 s) (ev v)).run P w = .ok () w1 ∧ Mf ek ev w1 g (upd f x v) ∧ w.grownBy w1 (some g) := by
 obtain ⟨es, clock, l, hb, hE, j, e, hj, hk, rfl⟩ := M
 have hg := MapKept.run_getObj_map (P := P) hb
 obtain ⟨s1, s2⟩ := set_block (w := w) (g := g) (o' := .map (es.modify j fun e => { e with val := ev v }) clock) hb
 refine ⟨_, ?_, ⟨_, _, _, s1, hE.put K hj hk v _ rfl⟩, s2⟩
 simp [Instr.entryStore, Sem.run_bind, hg, asInt, asIntOf, Result.andThen, findIdx_born hE.nb hj, MapKept.run_setObj_map _ hb]
/-- m[k] = v. -/
theorem Mf.update {t e : TypeId} (M : Mf ek ev w g f) (K : KeyT P k ek) (ht : P.underlying t = some (.map k e)) (x : κ) (v : ν) :
  ∃ w1, (Instr.mapUpdate t (.map (some g)) (ek x) (ev v)).run P w = .ok () w1 ∧ Mf ek ev w1 g (upd f x v) ∧ w.grownBy w1 (some g) := by
 obtain ⟨es, clock, l, hb, hE⟩ := M
 have hg := MapKept.run_getObj_map (P := P) hb
 rcases K.find x es.toList w hE.keys with ⟨h1, h2⟩ | ⟨j, e1, h1, h2, h3⟩
 ·obtain ⟨q1, q2⟩ := hE.no h2
  obtain ⟨s1, s2⟩ := set_block (w := w) (g := g) (o' := .map (es.push { key := ek x, val := ev v, born := clock }) (clock + 1)) hb
  refine ⟨_, ?_, ⟨_, _, _, s1, hE.push q1 v⟩, s2⟩
  simp [Instr.mapUpdate, Sem.run_bind, run_underlying ht, hg, K.check, h1, Result.andThen, MapKept.run_setObj_map _ hb]
 ·have h2' : es[j]? = some e1 := by simpa using h2
  obtain ⟨s1, s2⟩ := set_block (w := w) (g := g) (o' := .map (es.modify j fun e => { e with key := ek x, val := ev v }) clock) hb
  refine ⟨_, ?_, ⟨_, _, _, s1, hE.put K h2 h3 v _ (by rw [← h3])⟩, s2⟩
  have hst := K.stays x w
  simp [Instr.mapUpdate, Sem.run_bind, run_underlying ht, hg, K.check, h1, Result.andThen, MapKept.run_setObj_map _ hb, h2', h3, hst]
end
end Go.Proofs.Ytkjefnlhhfpllaa.E
namespace Go.Proofs.Ytkjefnlhhfpllaa.E
open Go.RowKit Go.Proofs.YtkjefnlhhfpllaaW.PrintWords Go.Proofs.YtkjefnlhhfpllaaW.PrintMore
open Go.Proofs.Ytkjefnlhhfpllaa.T
set_option linter.unusedVariables false
set_option linter.unusedSimpArgs false
section
variable {κ ν : Type} [DecidableEq κ] {ek : κ → Value} {ev : ν → Value} {P : Program} {k : TypeId} {w w' : World} {g : Nat}
/-- A map that is asked with a zero for what it does not have. -/
def Mz (ek : κ → Value) (ev : ν → Value) (z : ν) (w : World) (g : Nat) (F : κ → ν) : Prop := ∃ f, Mf ek ev w g f ∧ ∀ x, F x = (f x).getD z
/-- .. and the entry of a key is the one that was made at a time. -/
def MzS (ek : κ → Value) (ev : ν → Value) (z : ν) (w : World) (g : Nat) (F : κ → ν) (s : Int) (x : κ) : Prop := ∃ f, MfS ek ev w g f s x ∧ ∀ x, F x = (f x).getD z
def updZ (F : κ → ν) (x : κ) (v : ν) (y : κ) : ν := if y = x then v else F y
theorem updZ_get {f : κ → Option ν} {F : κ → ν} {z : ν} (h : ∀ x, F x = (f x).getD z) (x : κ) (v : ν) (y : κ) : updZ F x v y = (upd f x v y).getD z := by
 unfold updZ upd
 split
 ·rfl
 ·exact h y
variable {z : ν} {F : κ → ν}
theorem Mz.heap (h : Mz ek ev z w g F) (e : w'.heap = w.heap) : Mz ek ev z w' g F := by obtain ⟨f, h1, h2⟩ := h; exact ⟨f, h1.heap e, h2⟩
theorem Mz.grown {row : Option Nat} (h : Mz ek ev z w g F) (k : w.grownBy w' row) (hn : some g ≠ row) : Mz ek ev z w' g F := by obtain ⟨f, h1, h2⟩ := h; exact ⟨f, h1.grown k hn, h2⟩
theorem Mz.below (h : Mz ek ev z w g F) (k : Below w.heap.size w w') : Mz ek ev z w' g F := by obtain ⟨f, h1, h2⟩ := h; exact ⟨f, h1.below k, h2⟩
theorem Mz.lt (h : Mz ek ev z w g F) : g < w.heap.size := by obtain ⟨f, h1, h2⟩ := h; exact h1.lt
theorem Mz.congr {F' : κ → ν} (h : Mz ek ev z w g F) (e : ∀ x, F x = F' x) : Mz ek ev z w g F' := by obtain ⟨f, h1, h2⟩ := h; exact ⟨f, h1, fun x => (e x).symm.trans (h2 x)⟩
theorem MzS.heap {s : Int} {x : κ} (h : MzS ek ev z w g F s x) (e : w'.heap = w.heap) : MzS ek ev z w' g F s x := by
 obtain ⟨f, h1, h2⟩ := h
 refine ⟨f, ?_, h2⟩
 unfold MfS at h1 ⊢
 rw [e]
 exact h1
variable {N : Nat} {env : Env} {o : Oper} {Q : Exit → Act → World → Prop} {K : Value → World → Prop}
theorem Runs.lookupF {t e : TypeId} {m y : Operand} {f : κ → Option ν} {c : Bool} {zv v : Value} (ho : o.op = .lookup t m y c) (hm : Ev env m (.map (some g))) (KT : KeyT P k ek) {x : κ} (hx : Ev env y (ek x)) (ht : P.underlying t = some (.map k e)) (hz : ∀ W, (zeroValue e).run P W = .ok zv W) (M : Mf ek ev w g f)
  (hv : (if c then Value.tuple #[((f x).map ev).getD zv, .bool (f x).isSome] else ((f x).map ev).getD zv) = v) : Runs P N env o w v := fun a w' ha hw => by
 have h := (M.heap hw).lookup KT ht (hz w') x c
 rw [hv] at h
 have e1 := ha.eval hm
 have e2 := ha.eval hx
 generalize a.eval = ρ at e1 e2 ⊢
 unfold execOp; rw [ho]; simp only []; rw [e1, e2]
 simp [go_sem, h]
theorem ST.makeMap {t : TypeId} (ek : κ → Value) (ev : ν → Value) (ho : o.op = .makeMap t none) (h : ∀ g w1, g = w.heap.size → Mf ek ev w1 g (fun _ => none) → Below w.heap.size w w1 → K (.map (some g)) w1) : ST P Q N env w o K := by
 refine ST.ev (v := .map (some w.heap.size)) (w1 := w.alloc (.map #[] 0)) (fun a ha => ?_) (h _ _ rfl (Mf.made w) (below_alloc (Below.refl _ _) _))
 unfold execOp; rw [ho]
 rfl
theorem ST.mapEntry {t e : TypeId} {m y : Operand} (ho : o.op = .mapEntry t m y) (hm : Ev env m (.map (some g))) (KT : KeyT P k ek) (x : κ) (hx : Ev env y (ek x)) (ht : P.underlying t = some (.map k e)) (hz : ∀ W, (zeroValue e).run P W = .ok (ev z) W) (M : Mz ek ev z w g F)
  (h : ∀ w1 s, MzS ek ev z w1 g F s x → w.grownBy w1 (some g) → K (.tuple #[ev (F x), .int .i64 s]) w1) : ST P Q N env w o K := by
 obtain ⟨f, h1, h2⟩ := M
 obtain ⟨w1, s, hr, hM, hg⟩ := h1.entry KT ht hz x
 refine ST.ev (v := .tuple #[ev (F x), .int .i64 s]) (w1 := w1) (fun a ha => ?_) (h w1 s ⟨_, hM, fun y => ?_⟩ hg)
 ·have e1 := ha.eval hm
  have e2 := ha.eval hx
  generalize a.eval = ρ at e1 e2 ⊢
  unfold execOp; rw [ho]; simp only []; rw [e1, e2, h2]
  simp [go_sem, hr]
 ·rw [h2]
  unfold upd
  by_cases q : y = x
  ·subst q; simp
  ·rw [if_neg q]
theorem ST.entryStore {t : TypeId} {m s y : Operand} {n : Int} {x : κ} {v : ν} (ho : o.op = .entryStore t m s y) (hm : Ev env m (.map (some g))) (hs : Ev env s (.int .i64 n)) (hy : Ev env y (ev v)) (KT : KeyT P k ek) (M : MzS ek ev z w g F n x)
  (h : ∀ w1, Mz ek ev z w1 g (updZ F x v) → w.grownBy w1 (some g) → K undef w1) : ST P Q N env w o K := by
 obtain ⟨f, h1, h2⟩ := M
 obtain ⟨w1, hr, hM, hg⟩ := h1.store (t := t) KT v
 intro a ha Kc hK
 have e1 := ha.eval hm
 have e2 := ha.eval hs
 have e3 := ha.eval hy
 have : (execOp a.eval o).run P w = .ok .skip w1 := by
  generalize a.eval = ρ at e1 e2 e3 ⊢
  unfold execOp; rw [ho]; simp only []; rw [e1, e2, e3]
  simp [go_sem, hr]
 unfold Oper.wp
 rw [this]
 exact hK _ _ (h w1 ⟨_, hM, updZ_get h2 x v⟩ hg)
theorem ST.mapUpdate {t e : TypeId} {m y q : Operand} {f : κ → Option ν} {v : ν} (ho : o.op = .mapUpdate t m y q) (hm : Ev env m (.map (some g))) (KT : KeyT P k ek) (x : κ) (hx : Ev env y (ek x)) (hq : Ev env q (ev v)) (ht : P.underlying t = some (.map k e)) (M : Mf ek ev w g f)
  (h : ∀ w1, Mf ek ev w1 g (upd f x v) → w.grownBy w1 (some g) → K undef w1) : ST P Q N env w o K := by
 obtain ⟨w1, hr, hM, hg⟩ := M.update KT ht x v
 intro a ha Kc hK
 have e1 := ha.eval hm
 have e2 := ha.eval hx
 have e3 := ha.eval hq
 have : (execOp a.eval o).run P w = .ok .skip w1 := by
  generalize a.eval = ρ at e1 e2 e3 ⊢
  unfold execOp; rw [ho]; simp only []; rw [e1, e2, e3]
  simp [go_sem, hr]
 unfold Oper.wp
 rw [this]
 exact hK _ _ (h w1 hM hg)
end
end Go.Proofs.Ytkjefnlhhfpllaa.E
namespace Go.Proofs.Ytkjefnlhhfpllaa.E
open Go.RowKit Go.Proofs.YtkjefnlhhfpllaaW.PrintWords Go.Proofs.YtkjefnlhhfpllaaW.PrintMore
open Go.Proofs.Ytkjefnlhhfpllaa.T
open Go.ChangeMaps (setBlock)
set_option linter.unusedVariables false
set_option linter.unusedSimpArgs false
section
variable {P : Program} {w w' : World} {N : Nat} {env : Env} {o : Oper} {Q : Exit → Act → World → Prop} {K : Value → World → Prop}
/-- A whole array as a slice. -/
theorem Runs.sliceArr {t e : TypeId} {x : Operand} {p : Addr} {n : Nat} (ho : o.op = .slice t x none none none) (hx : Ev env x (.pointer (some p))) (hu : P.underlying t = some (.array n e)) (hz : Sized P e) (hn : n ≠ 0) : Runs P N env o w (.slice (some (p.add 0)) n n) := fun a w' ha hw => by
 obtain ⟨inf, h1, h2⟩ := hz
 have e1 := ha.eval hx
 generalize a.eval = ρ at e1 ⊢
 unfold execOp; rw [ho]
 simp [go_sem, e1, Instr.sliceAt, Instr.sliceBounds, run_underlying hu, run_sizeOf w' h1, Sem.run_bind, Instr.sureAddr, hn]
/-- copy into the cells of a block of ours. -/
theorem ST.copy {x y : Operand} {t u elem : TypeId} {g off n c : Nat} {A : Option Addr} {m c2 : Nat} {cs all all' : List Value} {tt : TypeId} (ho : o.op = .call { callee := .builtin .copy, args := #[x, y], argTypes := #[t, u] }) (hx : Ev env x (.slice (some ⟨g, off, none⟩) n c)) (hy : Ev env y (.slice A m c2))
  (hu : P.underlying t = some (.slice elem)) (hs : (P.info? elem).map (·.size) = some 1) (hb : w.heap[g]? = some (.cells all.toArray tt (0, 0))) (hn : cs.length = Nat.min m n) (hsrc : cs ≠ [] → ∃ a, A = some a ∧ ∀ j v, cs[j]? = some v → w.cell? (a.add j) = some v) (hfit : off + cs.length ≤ all.length) (h1 : ∀ v ∈ cs, v.oneCell' = true)
  (hall : all.take off ++ (cs ++ all.drop (off + cs.length)) = all') (h : ∀ w1, w1.heap[g]? = some (.cells all'.toArray tt (0, 0)) → w.grownBy w1 (some g) → K (goInt cs.length) w1) : ST P Q N env w o K := by
 by_cases h0 : cs = []
 ·subst h0
  refine ST.ev (v := goInt 0) (w1 := w) (fun a ha => ?_) (h w (by rw [← hall]; simpa using hb) (World.grownBy.refl _ _))
  have e1 := ha.eval hx
  have e2 := ha.eval hy
  have hrun := run_copy_none (P := P) w t u o.type elem (some ⟨g, off, none⟩) A n c m c2 hu hs (by simpa using hn.symm)
  generalize a.eval = ρ at e1 e2 ⊢
  unfold execOp; rw [ho]
  simp [resolve, invoke, builtin, e1, e2, hrun, Result.andThen]
 ·obtain ⟨ad, hA, hsrc'⟩ := hsrc h0
  subst hA
  refine ST.ev (v := goInt cs.length) (w1 := w.setRow g (all.toArray.toList.take off ++ (cs ++ all.toArray.toList.drop (off + cs.length))).toArray) (fun a ha => ?_) (h _ ?_ ?_)
  ·have e1 := ha.eval hx
   have e2 := ha.eval hy
   have hrun := run_copy_row (P := P) w t u o.type elem g off n c ad m c2 all.toArray tt cs hu hs hb hn hsrc' (by simpa using hfit) h1
   generalize a.eval = ρ at e1 e2 ⊢
   unfold execOp; rw [ho]
   simp [resolve, invoke, builtin, e1, e2, hrun, Result.andThen]
  ·rw [setRow_heap w g _ _ tt _ hb, ← hall]
  ·exact ⟨rfl, rfl, rfl, by simp [World.setRow], fun k hk hne => setRow_other w g k _ (fun e => hne (by rw [e]))⟩
end
section
variable {κ ν : Type} [DecidableEq κ] {ek : κ → Value} {ev : ν → Value} {P : Program} {k : TypeId} {w w' : World} {g r : Nat} {f : κ → Option ν}
/-- A range over a map: S has been handed out, n are left. -/
def MfI (ek : κ → Value) (ev : ν → Value) (w : World) (r g : Nat) (f : κ → Option ν) (S : List κ) (n : Nat) : Prop := ∃ es clock l since seen c0, w.heap[r]? = some (.mapIter (some g) since seen c0) ∧ w.heap[g]? = some (.map es clock) ∧ MfE ek ev es clock l f ∧ (∀ e ∈ es.toList, e.born < since) ∧ since ≤ c0 ∧ since ≤ clock ∧ (es.toList.filter (fun e => !seen.contains e.born)).length = n ∧ ∀ e ∈ es.toList, (seen.contains e.born = true ↔ ∃ x ∈ S, e.key = ek x)
/-- .. and the last one is x with v. -/
def MfJ (ek : κ → Value) (ev : ν → Value) (w : World) (r g : Nat) (f : κ → Option ν) (x : κ) (v : ν) : Prop := ∃ (es : Array MapEntry) (clock : Nat) (l : List (κ × ν)) (since : Nat) (seen : Array Nat) (e : MapEntry), w.heap[r]? = some (.mapIter (some g) since (seen.push e.born) clock) ∧ w.heap[g]? = some (.map es clock) ∧ MfE ek ev es clock l f ∧ e ∈ es.toList ∧ e.key = ek x ∧ e.val = ev v
variable {S : List κ} {n : Nat}
theorem MfI.grown {row : Option Nat} (h : MfI ek ev w r g f S n) (k : w.grownBy w' row) (hn : some g ≠ row) (hr : some r ≠ row) : MfI ek ev w' r g f S n := by
 obtain ⟨es, clock, l, since, seen, c0, h1, h2, h3⟩ := h
 exact ⟨es, clock, l, since, seen, c0, (k.block r (Array.getElem?_eq_some_iff.1 h1).1 (fun e => hr e)).trans h1, (k.block g (Array.getElem?_eq_some_iff.1 h2).1 (fun e => hn e)).trans h2, h3⟩
theorem MfI.below (h : MfI ek ev w r g f S n) (k : Below w.heap.size w w') : MfI ek ev w' r g f S n := by
 obtain ⟨es, clock, l, since, seen, c0, h1, h2, h3⟩ := h
 exact ⟨es, clock, l, since, seen, c0, (k.block r (Array.getElem?_eq_some_iff.1 h1).1).trans h1, (k.block g (Array.getElem?_eq_some_iff.1 h2).1).trans h2, h3⟩
theorem MfI.lt (h : MfI ek ev w r g f S n) : r < w.heap.size := by
 obtain ⟨es, clock, l, since, seen, c0, h1, _⟩ := h
 exact (Array.getElem?_eq_some_iff.1 h1).1
theorem MfI.it (h : MfI ek ev w r g f S n) : ∃ since seen c0, w.heap[r]? = some (.mapIter (some g) since seen c0) := by
 obtain ⟨es, clock, l, since, seen, c0, h1, _⟩ := h
 exact ⟨_, _, _, h1⟩
variable {N : Nat} {env : Env} {o : Oper} {Q : Exit → Act → World → Prop} {K : Value → World → Prop}
theorem ST.range {t e : TypeId} {m : Operand} (ho : o.op = .range t m) (hm : Ev env m (.map (some g))) (ht : P.underlying t = some (.map k e)) (M : Mf ek ev w g f)
  (h : ∀ r w1 n, r = w.heap.size → MfI ek ev w1 r g f [] n → Below w.heap.size w w1 → K (.pointer (some ⟨r, 0, none⟩)) w1) : ST P Q N env w o K := by
 obtain ⟨es, clock, l, h1, h2⟩ := M
 have hg := MapKept.run_getObj_map (P := P) h1
 refine ST.ev (v := .pointer (some ⟨w.heap.size, 0, none⟩)) (w1 := w.alloc (.mapIter (some g) clock #[] clock)) (fun a ha => ?_) (h _ _ (es.toList.filter (fun e => !(#[] : Array Nat).contains e.born)).length rfl ⟨es, clock, l, clock, #[], clock, (MapKept.heap_alloc w _).1, ?_, h2, h2.lt, Nat.le_refl _, Nat.le_refl _, rfl, fun e he => by simp⟩ (below_alloc (Below.refl _ _) _))
 ·have e1 := ha.eval hm
  generalize a.eval = ρ at e1 ⊢
  unfold execOp; rw [ho]; simp only []; rw [e1]
  simp [go_sem, Instr.range, run_underlying ht, hg, Sem.run_bind, Result.andThen, newObj, Sem.run]
 ·have := (below_alloc (Below.refl w.heap.size w) (.mapIter (some g) clock #[] clock)).block g (Array.getElem?_eq_some_iff.1 h1).1
  exact this.trans h1
theorem filter_less {α : Type} {p q : α → Bool} {l : List α} {x : α} (hx : x ∈ l) (hp : p x = true) (hq : q x = false) (h : ∀ y ∈ l, q y = true → p y = true) : (l.filter q).length < (l.filter p).length := by
 induction l with
 | nil => cases hx
 | cons y l ih =>
  have hle : (l.filter q).length ≤ (l.filter p).length := by
   have : ∀ l : List α, (∀ y ∈ l, q y = true → p y = true) → (l.filter q).length ≤ (l.filter p).length := by
    intro l hl
    induction l with
    | nil => simp
    | cons z l ih2 =>
     have i2 := ih2 (fun y hy => hl y (List.mem_cons_of_mem _ hy))
     rw [List.filter_cons, List.filter_cons]
     have hz := hl z List.mem_cons_self
     split <;> split <;> simp_all <;> omega
   exact this l (fun z hz => h z (List.mem_cons_of_mem _ hz))
  rcases List.mem_cons.mp hx with rfl | hx
  ·rw [List.filter_cons, List.filter_cons, hp, hq]
   simp
   omega
  ·have := ih hx (fun z hz => h z (List.mem_cons_of_mem _ hz))
   have hy := h y List.mem_cons_self
   rw [List.filter_cons, List.filter_cons]
   split <;> split <;> simp_all <;> omega
theorem ST.next {it : Operand} (ho : o.op = .next it false) (hi : Ev env it (.pointer (some ⟨r, 0, none⟩))) (KT : KeyT P k ek) (I : MfI ek ev w r g f S n)
  (h0 : (∀ x v, f x = some v → x ∈ S) → K (.tuple #[.bool false]) w)
  (h : ∀ x v w1 m, f x = some v → x ∉ S → m < n → MfI ek ev w1 r g f (S ++ [x]) m → MfJ ek ev w1 r g f x v → w.grownBy w1 (some r) → K (.tuple #[.bool true, ek x, ev v]) w1) : ST P Q N env w o K := by
 obtain ⟨es, clock, l, since, seen, c0, q1, q2, q3, q4, q5, q6, q7, q8⟩ := I
 have hne : r ≠ g := by rintro rfl; rw [q1] at q2; cases q2
 rcases run_next_at (P := P) w o.type r g since c0 seen es clock q1 q2 q4 q5 with ⟨z1, z2⟩ | ⟨e, he, w1, hw1, hrun⟩
 ·refine ST.ev (v := .tuple #[.bool false]) (w1 := w) (fun a ha => ?_) (h0 fun x v hx => ?_)
  ·have e1 := ha.eval hi
   generalize a.eval = ρ at e1 ⊢
   unfold execOp; rw [ho]; simp only []; rw [e1]
   simp [go_sem, z2]
  ·have hg := (q3.get x).trans hx
   have hm := getL_some hg
   obtain ⟨j, hj⟩ := List.mem_iff_getElem?.mp hm
   have hme : (es.toList.map (fun e => (e.key, e.val)))[j]? = some (ek x, ev v) := by rw [q3.is, List.getElem?_map, hj]; rfl
   rw [List.getElem?_map] at hme
   cases hq : es.toList[j]? with
   | none => rw [hq] at hme; cases hme
   | some e =>
    rw [hq] at hme
    have hk : e.key = ek x := congrArg Prod.fst (Option.some.inj hme)
    have hee : e ∈ es.toList := List.mem_of_getElem? hq
    by_cases hs : seen.contains e.born = true
    ·obtain ⟨y, hy, hky⟩ := (q8 e hee).mp hs
     have := KT.inj (hk.symm.trans hky)
     rw [this]; exact hy
    ·exfalso
     have : e ∈ (leftOf es seen).toList := by
      unfold leftOf
      simp only [Array.toList_filter, List.mem_filter]
      exact ⟨hee, by simpa using hs⟩
     rw [Array.eq_empty_of_size_eq_zero z1] at this
     simp at this
 ·have he' : e ∈ es.toList ∧ seen.contains e.born = false := by
   unfold leftOf at he
   simp only [Array.toList_filter, List.mem_filter] at he
   exact ⟨he.1, by simpa using he.2⟩
  obtain ⟨x, hx⟩ := q3.keys e he'.1
  obtain ⟨j, hj⟩ := List.mem_iff_getElem?.mp he'.1
  obtain ⟨v, hv1, hv2, hv3⟩ := q3.at_ KT hj hx
  have hr1 : w1.heap = w.heap := by rcases hw1 with rfl | rfl <;> rfl
  have hlt : r < w.heap.size := (Array.getElem?_eq_some_iff.1 q1).1
  have hb1 : (setBlock w1 r (.mapIter (some g) since (seen.push e.born) clock)).heap[r]? = some (.mapIter (some g) since (seen.push e.born) clock) := by
   simp [setBlock, hr1, hlt]
  have hb2 : (setBlock w1 r (.mapIter (some g) since (seen.push e.born) clock)).heap[g]? = some (.map es clock) := by
   simp only [setBlock, hr1]
   rw [Array.getElem?_setIfInBounds_ne hne]
   exact q2
  have hgr : w.grownBy (setBlock w1 r (.mapIter (some g) since (seen.push e.born) clock)) (some r) := by
   have h1 : w1.grownBy (setBlock w1 r (.mapIter (some g) since (seen.push e.born) clock)) (some r) := (set_block (w := w1) (g := r) (o' := .mapIter (some g) since (seen.push e.born) clock) (by rw [hr1]; exact q1)).2
   have h2 : w.grownBy w1 (some r) := by
    rcases hw1 with rfl | rfl
    ·exact World.grownBy.refl _ _
    ·exact gbD
   exact h2.trans h1
  have hxS : x ∉ S := fun hS => by
   have := (q8 e he'.1).mpr ⟨x, hS, hx⟩
   rw [he'.2] at this
   cases this
  have hxv : e.val = ev v := hv3
  refine ST.ev (v := .tuple #[.bool true, ek x, ev v]) (w1 := setBlock w1 r (.mapIter (some g) since (seen.push e.born) clock)) (fun a ha => ?_) (h x v _ (es.toList.filter (fun e' => !(seen.push e.born).contains e'.born)).length hv2 hxS ?_ ⟨es, clock, l, since, _, _, hb1, hb2, q3, q4, q6, q6, rfl, fun e2 he2 => ?_⟩ ⟨es, clock, l, since, seen, e, hb1, hb2, q3, he'.1, hx, hxv⟩ hgr)
  ·have e1 := ha.eval hi
   rw [hx, hxv] at hrun
   generalize a.eval = ρ at e1 ⊢
   unfold execOp; rw [ho]; simp only []; rw [e1]
   simp [go_sem, hrun]
  ·rw [← q7]
   refine filter_less he'.1 (by show (!_) = true; rw [he'.2]; rfl) (by simp) (fun y hy hq => ?_)
   simp at hq ⊢
   exact fun hc => hq.1 hc
  ·have hb : (seen.push e.born).contains e2.born = true ↔ seen.contains e2.born = true ∨ e2.born = e.born := by simp
   rw [hb, q8 e2 he2]
   constructor
   ·rintro (⟨y, hy, hk⟩ | hk)
    ·exact ⟨y, List.mem_append_left _ hy, hk⟩
    ·refine ⟨x, by simp, ?_⟩
     obtain ⟨j2, hj2⟩ := List.mem_iff_getElem?.mp he2
     have hb1 : (es.toList.map (·.born))[j2]? = some e.born := by rw [List.getElem?_map, hj2]; simp [hk]
     have hb2 : (es.toList.map (·.born))[j]? = some e.born := by rw [List.getElem?_map, hj]; simp
     have hlt2 := (List.getElem?_eq_some_iff.1 hb1).1
     have := (List.getElem?_inj hlt2 q3.nb).mp (hb1.trans hb2.symm)
     subst this
     rw [hj] at hj2
     cases hj2
     exact hx
   ·rintro ⟨y, hy, hk⟩
    rcases List.mem_append.mp hy with hy | hy
    ·exact .inl ⟨y, hy, hk⟩
    ·rw [List.mem_singleton] at hy
     rw [hy] at hk
     right
     obtain ⟨j2, hj2⟩ := List.mem_iff_getElem?.mp he2
     obtain ⟨v2, hl2, _, _⟩ := q3.at_ KT hj2 hk
     have hb1 : (l.map (·.1))[j2]? = some x := by rw [List.getElem?_map, hl2]; rfl
     have hb2 : (l.map (·.1))[j]? = some x := by rw [List.getElem?_map, hv1]; rfl
     have hlt2 := (List.getElem?_eq_some_iff.1 hb1).1
     have := (List.getElem?_inj hlt2 q3.nd).mp (hb1.trans hb2.symm)
     subst this
     rw [hj] at hj2
     cases hj2
     rfl
theorem Runs.entry {it : Operand} {x : κ} {v : ν} (ho : o.op = .entry it) (hi : Ev env it (.pointer (some ⟨r, 0, none⟩))) (J : MfJ ek ev w r g f x v) : Runs P N env o w (.tuple #[ek x, ev v]) := fun a w' ha hw => by
 obtain ⟨es, clock, l, since, seen, e, q1, q2, q3, q4, q5, q6⟩ := J
 have h := run_entry_at (P := P) w' r g since seen es clock e (by rw [hw]; exact q1) (by rw [hw]; exact q2) q4 q3.nb
 rw [q5, q6] at h
 have e1 := ha.eval hi
 generalize a.eval = ρ at e1 ⊢
 unfold execOp; rw [ho]; simp only []; rw [e1]
 simp [go_sem, h]
end
end Go.Proofs.Ytkjefnlhhfpllaa.E
namespace Go.Proofs.Ytkjefnlhhfpllaa.E
open Go.RowKit Go.Proofs.YtkjefnlhhfpllaaW.PrintWords Go.Proofs.YtkjefnlhhfpllaaW.PrintMore
open Go.Proofs.Ytkjefnlhhfpllaa.T
set_option linter.unusedVariables false
section
variable {P : Program} {w : World} {N : Nat} {env : Env} {o : Oper} {Q : Exit → Act → World → Prop} {K : Value → World → Prop}
end
end Go.Proofs.Ytkjefnlhhfpllaa.E
namespace Go.Proofs.Ytkjefnlhhfpllaa.E
open Go.RowKit Go.Proofs.YtkjefnlhhfpllaaW.PrintWords Go.Proofs.YtkjefnlhhfpllaaW.PrintMore
open Go.Proofs.Ytkjefnlhhfpllaa.T
set_option linter.unusedVariables false
set_option linter.unusedSimpArgs false
section
variable {P : Program} {w w' : World} {N : Nat} {env : Env} {o : Oper} {Q : Exit → Act → World → Prop} {K : Value → World → Prop}
/-- append(v, x), x a row of our own: behind the making of the variadic's slice. -/
theorem ST.appendR {α : Type} (d : Kd α) {w0 : World} (base : Nat) {W : World} {s x : Operand} {t e : TypeId} {z : Value} {bytes : Nat}
  (ho : o.op = .call { callee := .builtin .append, args := #[s, x], argTypes := #[t, t] })
  (ht : P.underlying t = some (.slice e)) (hinfo : (P.info? e).map (fun i => (i.zero, i.size, i.bytes)) = some (some z, d.sz, bytes)) (hz : z.cells.size = d.sz) (hs0 : 0 < d.sz) (hb0 : 0 < bytes)
  {v : Value} {xs : List α} (p : α) {cs : List Value} (hs : Ev env s v) (hx : Ev env x (.slice (some ⟨W.heap.size, 0, none⟩) 1 1)) (hp : d.M W base (fun k => some k ≠ v.ownBlock) p cs)
  (HO : d.R e W base (fun _ => True) v xs) (HB : Below base w0 W) (hbase : base ≤ W.heap.size) (hl : (xs.length + 1) * bytes ≤ 140737488355328)
  (h : ∀ v1 w1, d.R e w1 base (fun _ => True) v1 (xs ++ [p]) → Below base w0 w1 → W.grownBy w1 v.ownBlock → (v1.ownBlock = v.ownBlock ∨ ∃ k, v1.ownBlock = some k ∧ W.heap.size ≤ k) → K v1 w1) : ST P Q N env (W.alloc (.cells cs.toArray e)) o K := by
 intro a ha Kc hK
 have h0 : Region.wanted { o with guard := none } (yielded #[] a.tmps) = true := rfl
 have := Kd.R_append_step (P := P) (ops := #[]) (o := { o with guard := none }) (a := a) (Q := Q) (Kc := Kc) d base h0 s x t e z bytes ho ht hinfo hz hs0 hb0 v xs p cs (fun _ => True) (fun k => some k ≠ v.ownBlock) (ha.eval hs) (ha.eval hx) hp (fun _ hk => ⟨trivial, hk⟩) (fun _ _ => trivial) HO HB hbase hl (fun v1 w1 h1 h2 h3 h4 => hK _ _ (h v1 w1 h1 h2 h3 h4))
 rw [if_pos h0] at this
 exact this
end
/-- A block of another type has been written. -/
theorem R_over {α : Type} {d : Kd α} {e base g t : Nat} {w w1 : World} {v : Value} {xs : List α} {cs : Array Value} (h : d.R e w base (fun _ => True) v xs) (hb : w.heap[g]? = some (.cells cs t (0, 0))) (ht : ∀ q, q ∈ e :: d.E → q ≠ t) (hg : w.grownBy w1 (some g)) : d.R e w1 base (fun _ => True) v xs :=
 Kd.R_mono (Kd.R_grown (Kd.R_types h hb ht) hg (fun k hk q => hk.2 (Option.some.inj q))) (fun _ _ => trivial)
/-- Another row has been written, whose elements are of another type. -/
theorem R_over' {α β : Type} {d : Kd α} {d' : Kd β} {e e' base base' : Nat} {w w1 : World} {v u : Value} {xs : List α} {ys : List β} (h : d.R e w base (fun _ => True) v xs) (hu : d'.R e' w base' (fun _ => True) u ys) (ht : ∀ q, q ∈ e :: d.E → q ≠ e') (hg : w.grownBy w1 u.ownBlock) : d.R e w1 base (fun _ => True) v xs := by
 cases hu' : u.ownBlock with
 | none => rw [hu'] at hg; exact Kd.R_below h (belowG hg)
 | some g =>
  obtain ⟨_, _, ho, _⟩ := hu
  obtain ⟨cs, hc⟩ := own_typed ho g hu'
  rw [hu'] at hg
  exact R_over h hc ht hg
/-- An own row as an element, none of its blocks another row's. -/
theorem M_row' {α β : Type} {d : Kd α} {d' : Kd β} {e e' base base' : Nat} {w : World} {v u : Value} {xs : List α} {ys : List β} (h : d.R e w base (fun _ => True) v xs) (hu : d'.R e' w base' (fun _ => True) u ys) (ht : ∀ q, q ∈ e :: d.E → q ≠ e') : (Kd.slice e d).M w base (fun k => some k ≠ u.ownBlock) xs [v] := by
 refine ⟨v, rfl, ?_⟩
 cases hu' : u.ownBlock with
 | none => exact Kd.R_mono h (fun _ _ e => by cases e)
 | some g =>
  obtain ⟨_, _, ho, _⟩ := hu
  obtain ⟨cs, hc⟩ := own_typed ho g hu'
  exact Kd.R_mono (Kd.R_types h hc ht) (fun k hk q => hk.2 (Option.some.inj q))
end Go.Proofs.Ytkjefnlhhfpllaa.E
namespace Go.Proofs.Ytkjefnlhhfpllaa.E
open Go.RowKit Go.Proofs.YtkjefnlhhfpllaaW.PrintWords Go.Proofs.YtkjefnlhhfpllaaW.PrintMore
open Go.Proofs.Ytkjefnlhhfpllaa.T
set_option linter.unusedVariables false
set_option linter.unusedSimpArgs false
section
variable {P : Program} {w : World} {N fuel : Nat} {env : Env} {ops : Array Oper} {Q : Exit → Act → World → Prop} {S : World → Prop} {L : Array Bool}
end
/-- Two rows are not the same block. -/
def Ap (u v : Value) : Prop := ∀ k, u.ownBlock = some k → v.ownBlock ≠ some k
theorem Ap.symm {u v : Value} (h : Ap u v) : Ap v u := fun k hk e => h k e hk
abbrev kJ : Kd Int := Kd.int .i64
/-- Three rows of numbers, each by itself. -/
structure Cb (bs : Nat) (W : World) (va vb vc : Value) (la lb lc : List Int) : Prop where
 a : Kd.R kJ 3 W bs (fun _ => True) va la
 b : Kd.R kJ 3 W bs (fun _ => True) vb lb
 c : Kd.R kJ 3 W bs (fun _ => True) vc lc
 ab : Ap va vb
 ac : Ap va vc
 bc : Ap vb vc
section
variable {b : Nat} {W w1 : World} {va vb vc u : Value} {la lb lc l : List Int}
theorem Cb.below (h : Cb b W va vb vc la lb lc) (l : Below W.heap.size W w1) : Cb b w1 va vb vc la lb lc := ⟨Kd.R_below h.a l, Kd.R_below h.b l, Kd.R_below h.c l, h.ab, h.ac, h.bc⟩
theorem ap_fresh {xs : List Int} (h : Kd.R kJ 3 W b (fun _ => True) vb xs) (n : ∃ k, u.ownBlock = some k ∧ W.heap.size ≤ k) : Ap u vb := fun k hk e => by
 obtain ⟨k', e', hle⟩ := n
 rw [e'] at hk
 cases hk
 have := Kd.R_lt h k e
 omega
theorem r_apart {xs : List Int} (h : Kd.R kJ 3 W b (fun _ => True) vb xs) (ha : Ap va vb) (g : W.grownBy w1 va.ownBlock) : Kd.R kJ 3 w1 b (fun _ => True) vb xs := by
 cases hv : va.ownBlock with
 | none => rw [hv] at g; exact Kd.R_below h (belowG g)
 | some k => rw [hv] at g; exact Kd.R_grown1 h rfl g (fun e => ha k hv e.symm)
theorem Cb.grow (h : Cb b W va vb vc la lb lc) (r : Kd.R kJ 3 w1 b (fun _ => True) u l) (g : W.grownBy w1 va.ownBlock) (n : u.ownBlock = va.ownBlock ∨ ∃ k, u.ownBlock = some k ∧ W.heap.size ≤ k) : Cb b w1 u vb vc l lb lc := by
 refine ⟨r, r_apart h.b h.ab g, r_apart h.c h.ac g, ?_, ?_, h.bc⟩
 ·rcases n with n | n
  ·exact fun k hk => h.ab k (n ▸ hk)
  ·exact ap_fresh h.b n
 ·rcases n with n | n
  ·exact fun k hk => h.ac k (n ▸ hk)
  ·exact ap_fresh h.c n
/-- A block of another type is written. -/
theorem Cb.over {g t : Nat} {cs : Array Value} (h : Cb b W va vb vc la lb lc) (hb : W.heap[g]? = some (.cells cs t (0, 0))) (ht : 3 ≠ t) (hg : W.grownBy w1 (some g)) : Cb b w1 va vb vc la lb lc :=
 ⟨Kd.R_grown1 h.a rfl hg (Kd.R_ne h.a hb ht), Kd.R_grown1 h.b rfl hg (Kd.R_ne h.b hb ht), Kd.R_grown1 h.c rfl hg (Kd.R_ne h.c hb ht), h.ab, h.ac, h.bc⟩
end
theorem apart_R {α β : Type} {d : Kd α} {d' : Kd β} {e e' base base' : Nat} {w : World} {v u : Value} {xs : List α} {ys : List β} (h : d.R e w base (fun _ => True) v xs) (hu : d'.R e' w base' (fun _ => True) u ys) (ht : ∀ q, q ∈ e :: d.E → q ≠ e') : d.R e w base (fun k => some k ≠ u.ownBlock) v xs := by
 obtain ⟨v', he, hr⟩ := M_row' h hu ht
 obtain rfl : v = v' := by simpa using he
 exact hr
theorem take_snoc {α : Type} {l : List α} {i : Nat} {c : α} (h : l[i]? = some c) : l.take i ++ [c] = l.take (i + 1) := by rw [List.take_add_one, h]; rfl
end Go.Proofs.Ytkjefnlhhfpllaa.E
namespace Go.Proofs.Ytkjefnlhhfpllaa.E
open Go.RowKit Go.Proofs.YtkjefnlhhfpllaaW.PrintWords Go.Proofs.YtkjefnlhhfpllaaW.PrintMore
open Go.Proofs.Ytkjefnlhhfpllaa.P
open Go.Proofs.Ytkjefnlhhfpllaa.T
set_option linter.unusedVariables false
set_option linter.unusedSimpArgs false
section
variable {P : Program} {w w' : World} {N : Nat} {env : Env} {o : Oper} {Q : Exit → Act → World → Prop} {K : Value → World → Prop}
end
end Go.Proofs.Ytkjefnlhhfpllaa.E
namespace Go.Proofs.Ytkjefnlhhfpllaa.T
open Go.RowKit Go.Proofs.YtkjefnlhhfpllaaW.PrintWords Go.Proofs.YtkjefnlhhfpllaaW.PrintMore
open Go.Proofs.Ytkjefnlhhfpllaa.P
end Go.Proofs.Ytkjefnlhhfpllaa.T
namespace Go.Proofs.Ytkjefnlhhfpllaa.E
open Go.RowKit Go.Proofs.YtkjefnlhhfpllaaW.PrintWords Go.Proofs.YtkjefnlhhfpllaaW.PrintMore
open Go.Proofs.Ytkjefnlhhfpllaa.T
set_option linter.unusedVariables false
set_option linter.unusedSimpArgs false
theorem Runs.rem {P : Program} {w : World} {N : Nat} {env : Env} {o : Oper} {t u : TypeId} {x y : Operand} {k : IntKind} {m n r : Int} (ho : o.op = .binOp .rem t x y u) (hx : Ev env x (.int k m)) (hy : Ev env y (.int k n)) (h0 : n ≠ 0) (hb : m.tmod n = r) : Runs P N env o w (.int k r) := fun a w' ha hw => by
 unfold execOp; rw [ho]; simp only []; rw [ha.eval hx, ha.eval hy]
 subst hb
 simp [go_sem, h0]
section
variable {P : Program} {w w' : World} {N : Nat} {env : Env} {o : Oper} {Q : Exit → Act → World → Prop} {K : Value → World → Prop}
end
end Go.Proofs.Ytkjefnlhhfpllaa.E
namespace Go.Proofs.Ytkjefnlhhfpllaa.E
open Go.RowKit Go.Proofs.YtkjefnlhhfpllaaW.PrintWords Go.Proofs.YtkjefnlhhfpllaaW.PrintMore
open Go.Proofs.Ytkjefnlhhfpllaa.T
set_option linter.unusedVariables false
set_option linter.unusedSimpArgs false
/-- The two kinds of numbers whose bits are asked for. -/
def Wide (k : IntKind) : Prop := k = .u64 ∨ k = .i64
theorem Wide.wrap {k : IntKind} (h : Wide k) : ∀ n : Int, 0 ≤ n → n < 2 ^ 32 → k.wrap n = n := by
 intro n h0 h1
 rcases h with rfl | rfl
 ·simp [IntKind.wrap, IntKind.bits, IntKind.signed]; omega
 ·rw [IntKind.wrap_i64]; omega
theorem Wide.bits {k : IntKind} (h : Wide k) : 32 ≤ k.bits := by rcases h with rfl | rfl <;> decide
theorem bits_andNot {k : IntKind} (h : Wide k) {a b : Nat} (ha : a < 2 ^ 32) (hb : b < 2 ^ 32) : bits .andNot k a b = ((a &&& (a ^^^ b) : Nat) : Int) := by
 have hp : 2 ^ 32 ≤ 2 ^ k.bits := Nat.pow_le_pow_right (by decide) h.bits
 have ha' : a % 2 ^ k.bits = a := Nat.mod_eq_of_lt (Nat.lt_of_lt_of_le ha hp)
 have hb' : b % 2 ^ k.bits = b := Nat.mod_eq_of_lt (Nat.lt_of_lt_of_le hb hp)
 have e : (BitVec.ofInt k.bits a &&& ~~~BitVec.ofInt k.bits b) = (BitVec.ofInt k.bits a &&& (BitVec.ofInt k.bits a ^^^ BitVec.ofInt k.bits b)) := by
  apply BitVec.eq_of_getElem_eq
  intro i hi
  simp only [BitVec.getElem_and, BitVec.getElem_not, BitVec.getElem_xor]
  cases (BitVec.ofInt k.bits a)[i] <;> cases (BitVec.ofInt k.bits b)[i] <;> rfl
 show k.wrap ((BitVec.ofInt k.bits a &&& ~~~BitVec.ofInt k.bits b).toNat : Int) = _
 rw [e]
 simp only [BitVec.ofInt_natCast, BitVec.toNat_and, BitVec.toNat_xor, BitVec.toNat_ofNat, ha', hb']
 have hl : a &&& (a ^^^ b) < 2 ^ 32 := Nat.lt_of_le_of_lt Nat.and_le_left ha
 exact h.wrap _ (Int.natCast_nonneg _) (by exact_mod_cast hl)
section
variable {P : Program} {w w' : World} {N : Nat} {env : Env} {o : Oper} {Q : Exit → Act → World → Prop} {K : Value → World → Prop}
theorem Runs.bop {op : BinOp} {t u : TypeId} {x y : Operand} {k : IntKind} {m n r : Int} (hop : op = .and ∨ op = .or ∨ op = .andNot) (ho : o.op = .binOp op t x y u) (hx : Ev env x (.int k m)) (hy : Ev env y (.int k n)) (hb : bits op k m n = r) : Runs P N env o w (.int k r) := fun a w' ha hw => by
 unfold execOp; rw [ho]; simp only []; rw [ha.eval hx, ha.eval hy]
 subst hb
 rcases hop with rfl | rfl | rfl <;> simp [go_sem, bits]
theorem Runs.and {t u : TypeId} {x y : Operand} {k : IntKind} {a b : Nat} (hk : Wide k) (ho : o.op = .binOp .and t x y u) (hx : Ev env x (.int k a)) (hy : Ev env y (.int k b)) (ha : a < 2 ^ 32) (hb : b < 2 ^ 32) : Runs P N env o w (.int k ((a &&& b : Nat) : Int)) :=
 Runs.bop (.inl rfl) ho hx hy (bits_nat k 32 hk.bits hk.wrap a b ha hb).1
theorem Runs.or {t u : TypeId} {x y : Operand} {k : IntKind} {a b : Nat} (hk : Wide k) (ho : o.op = .binOp .or t x y u) (hx : Ev env x (.int k a)) (hy : Ev env y (.int k b)) (ha : a < 2 ^ 32) (hb : b < 2 ^ 32) : Runs P N env o w (.int k ((a ||| b : Nat) : Int)) :=
 Runs.bop (.inr (.inl rfl)) ho hx hy (bits_nat k 32 hk.bits hk.wrap a b ha hb).2
theorem Runs.andNot {t u : TypeId} {x y : Operand} {k : IntKind} {a b : Nat} (hk : Wide k) (ho : o.op = .binOp .andNot t x y u) (hx : Ev env x (.int k a)) (hy : Ev env y (.int k b)) (ha : a < 2 ^ 32) (hb : b < 2 ^ 32) : Runs P N env o w (.int k ((a &&& (a ^^^ b) : Nat) : Int)) :=
 Runs.bop (.inr (.inr rfl)) ho hx hy (bits_andNot hk ha hb)
theorem Runs.shr {t u : TypeId} {x y : Operand} {k k' : IntKind} {a n : Nat} (hk : Wide k) (ho : o.op = .binOp .shr t x y u) (hx : Ev env x (.int k a)) (hy : Ev env y (.int k' n)) (hn : n ≤ 32) : Runs P N env o w (.int k ((a / 2 ^ n : Nat) : Int)) := fun c w' hc hw => by
 unfold execOp; rw [ho]; simp only []; rw [hc.eval hx, hc.eval hy]
 have h1 : Min.min n 64 = n := Nat.min_eq_left (by omega)
 have h0 : ¬ ((n : Int) < 0) := by omega
 have h2 : (a : Int).fdiv (2 ^ n) = ((a / 2 ^ n : Nat) : Int) := by
  rw [show (2 : Int) ^ n = ((2 ^ n : Nat) : Int) by push_cast; rfl, Int.fdiv_eq_ediv_of_nonneg _ (Int.natCast_nonneg _)]
  rfl
 rcases hk with rfl | rfl <;> simp [go_sem, h0, h1] <;> rw [h2] <;> simp
theorem Runs.conv {t u : TypeId} {x : Operand} {k k' : IntKind} {a : Nat} (hu : P.underlying u = some (.int k')) (hv : P.underlying t = some (.int k)) (hk : Wide k') (ho : o.op = .convert t u x) (hx : Ev env x (.int k a)) (ha : a < 2 ^ 32) : Runs P N env o w (.int k' (a : Int)) := fun c w' hc hw => by
 unfold execOp; rw [ho]; simp only []; rw [hc.eval hx]
 have h2 : k'.wrap (a : Int) = a := hk.wrap _ (Int.natCast_nonneg _) (by exact_mod_cast ha)
 simp [go_sem, hu, hv, h2]
end
end Go.Proofs.Ytkjefnlhhfpllaa.E
namespace Go.Proofs.Ytkjefnlhhfpllaa.E
open Go.RowKit Go.Proofs.YtkjefnlhhfpllaaW.PrintWords Go.Proofs.YtkjefnlhhfpllaaW.PrintMore
open Go.Proofs.Ytkjefnlhhfpllaa.T
set_option linter.unusedVariables false
set_option linter.unusedSimpArgs false
section
variable {F : Fence} {k : Nat} {P : Program} {ops : Array Oper} {Q : Exit → Act → World → Prop} {N : Nat} {w : World} {rest : List Oper} {env : Env} {o : Oper}
theorem op_in {a : Act} {K : Act → World → Prop} (hF : WF F) (hnd : noDefer o.op = true) (h1 : o.wp P a w K Q) : o.wpIn F k P a w K Q := by
 refine ⟨fun f _ => hF.f f, ?_⟩
 rw [semAt_any hnd]
 unfold Oper.wp at h1
 generalize (execOp a.eval o).run P w = r at h1 ⊢
 cases r with
 | ok x w' =>
  cases x with
  | enter f args => exact ⟨fun e => by rw [hF.d] at e; exact Bool.noConfusion e, hF.calls h1⟩
  | row row args => exact ⟨fun e => by rw [hF.d] at e; exact Bool.noConfusion e, hF.rows h1⟩
  | round _ _ _ _ _ => exact h1.elim
  | _ => first | exact h1 | exact h1.elim
 | halt s w' => cases s <;> first | exact h1 | exact h1.elim
theorem wpAny_in (hF : WF F) (hno : ∀ a w, ¬ Q .outgrown a w) (hl : (ops.toList.all fun o => noDefer o.op) = true) {md : Region.Mode} : ∀ (fuel : Nat) (L : Array Bool) (a : Act) (w : World), wpAny P md ops Q fuel L a w → wpAnyIn F k P md ops Q fuel L a w
 | 0, L, a, w, h => h
 | fuel + 1, L, a, w, h => by
  refine ⟨h.1, fun i hi => ?_⟩
  have h2 := h.2 i hi
  unfold wpOp at h2
  unfold wpOpIn
  cases ho : ops[i]? with
  | none => rw [ho] at h2; exact wpAny_in hF hno hl fuel _ _ _ h2
  | some o =>
   rw [ho] at h2
   simp only at h2 ⊢
   have hnd : noDefer o.op = true := by
    have := List.all_eq_true.mp hl o (by rw [Array.mem_toList_iff]; exact Array.mem_of_getElem? ho)
    exact this
   split
   ·next hw =>
    rw [if_pos hw] at h2
    rcases h2 with h2 | ⟨_, a', w', h2⟩
    ·exact Oper.wpIn_mono (fun a w => wpAny_in hF hno hl fuel _ a w) (op_in hF hnd h2)
    ·exact absurd h2 (hno a' w')
   ·next hw =>
    rw [if_neg hw] at h2
    exact ⟨fun f _ => hF.f f, wpAny_in hF hno hl fuel _ _ _ h2⟩
/-- A region that draws, with one write that comes last. -/
theorem CI.heldJ {id : Nat} (hF : WF F) (hno : ∀ a w, ¬ Q .outgrown a w) (hl : (ops.toList.all fun o => noDefer o.op) = true) (b : Nat) (S1 S0 : World → World → Prop) (hb : Nat.blt b ops.size = true) (hm : P.follows .mixedOrders = true) (hS : ∀ v, S1 v v) (h : ∀ v, Below w.heap.size w v → GJ P ops Q b (S1 v) (S0 v) N ops.size (Array.replicate ops.size false) env v) : CI F k P (.region id ops true) Q N env w := by
 intro a ha
 refine wpIn_region_any hm (wpAny_in hF hno hl _ _ _ _ (wpAny_of_J (b := b) (S1 := S1 w.drew) (S0 := S0 w.drew) _ _ _ _ ?_))
 refine h w.drew (below_drew (Below.refl _ _)) a ha ?_
 refine (SJ.before ?_).mpr (hS _)
 have : b < ops.size := by simpa [Nat.blt_eq] using hb
 simp [this]
theorem CI.exit {id : Nat} (h : QG Q (.exit id) N env w) : CI F k P (.exit id) Q N env w := fun a ha => wpIn_exit (h a ha)
theorem CI.ret (h : QG Q .ret N env w) : CI F k P .ret Q N env w := fun a ha => wpIn_ret (h a ha)
theorem CI.loop {c : Code} {γ : Type} (E : γ → Env) (R : γ → World → Prop) (m : γ → Nat) (g0 : γ) (h0 : Sub (E g0) env) (hR : R g0 w)
  (round : ∀ g w', R g w' → CI F k P c (Exit.then (fun a'' w'' => ∃ g', Holds N a'' (E g') ∧ R g' w'' ∧ m g' < m g) Q) N (E g) w') : CI F k P (.loop c) Q N env w := by
 intro a ha
 refine wpIn_loop (fun a w => ∃ n g, m g = n ∧ Holds N a (E g) ∧ R g w) (fun a w => leastOf (fun n => ∃ g, m g = n ∧ Holds N a (E g) ∧ R g w)) ⟨_, g0, rfl, ha.sub h0, hR⟩ ?_
 intro a1 w1 hI
 obtain ⟨g, hm, hh, hr⟩ := (leastOf_spec hI).1
 refine wpIn_mono (round g w1 hr a1 hh) ?_
 intro e a' w' hq
 cases e with
 | normal =>
  obtain ⟨g', h1, h2, h3⟩ := hq
  exact show (∃ n g, _) ∧ _ from ⟨⟨_, g', rfl, h1, h2⟩, Nat.lt_of_le_of_lt ((leastOf_spec (p := fun n => ∃ g, m g = n ∧ Holds N a' (E g) ∧ R g w') ⟨_, g', rfl, h1, h2⟩).2 _ ⟨g', rfl, h1, h2⟩) (by rw [← hm]; exact h3)⟩
 | exit id => exact hq
 | goto l => exact hq
 | ret => exact hq
 | panic c => exact hq
 | outgrown => exact hq
end
end Go.Proofs.Ytkjefnlhhfpllaa.E
namespace Go.Proofs.Ytkjefnlhhfpllaa.E
open Go.RowKit Go.Proofs.YtkjefnlhhfpllaaW.PrintWords Go.Proofs.YtkjefnlhhfpllaaW.PrintMore
open Go.Proofs.Ytkjefnlhhfpllaa.T
set_option linter.unusedVariables false
set_option linter.unusedSimpArgs false
section
variable {k : Nat} {P : Program} {Q : Exit → Act → World → Prop} {N : Nat} {w : World} {env : Env}
end
end Go.Proofs.Ytkjefnlhhfpllaa.E
namespace Go.Proofs.Ytkjefnlhhfpllaa.E
open Go.RowKit Go.Proofs.YtkjefnlhhfpllaaW.PrintWords Go.Proofs.YtkjefnlhhfpllaaW.PrintMore
open Go.Proofs.Ytkjefnlhhfpllaa.T
set_option linter.unusedVariables false
section
variable {P : Program} {Q : Exit → Act → World → Prop} {N : Nat} {w : World} {env : Env}
theorem CG.scope {c : Code} (h : CG P c (Exit.noGoto Q) N env w) : CG P (.scope c) Q N env w := fun a ha => wp_scope_straight (h a ha)
theorem QG.scope_normal (h : QG Q .normal N env w) : QG (Exit.noGoto Q) .normal N env w := h
theorem QG.scope_ret (h : QG Q .ret N env w) : QG (Exit.noGoto Q) .ret N env w := h
end
end Go.Proofs.Ytkjefnlhhfpllaa.E
namespace Go.Proofs.Ytkjefnlhhfpllaa.E
open Go.RowKit Go.Proofs.YtkjefnlhhfpllaaW.PrintWords Go.Proofs.YtkjefnlhhfpllaaW.PrintMore
open Go.Proofs.Ytkjefnlhhfpllaa.T
set_option linter.unusedVariables false
set_option linter.unusedSimpArgs false
section
variable {P : Program} {Q : Exit → Act → World → Prop} {N : Nat} {w : World} {env : Env} {o : Oper} {K : Value → World → Prop}
theorem ST.makeC {t e : TypeId} {x y : Operand} {z : Value} {m bytes : Nat} (ho : o.op = .makeSlice t x y) (hx : Ev env x (.int .i64 (m : Int))) (hy : Ev env y (.int .i64 (m : Int))) (ht : P.underlying t = some (.slice e)) (hinfo : (P.info? e).map (fun i => (i.zero, i.size, i.bytes)) = some (some z, 1, bytes)) (hz : z.cells = #[z]) (hb : bytes ≤ 64) (hm : m ≤ 1000000)
  (h : ∀ g w1, g = w.heap.size → w1.heap[g]? = some (.cells (List.replicate m z).toArray e (0, 0)) → Below w.heap.size w w1 → K (.slice (some ⟨g, 0, none⟩) m m) w1) : ST P Q N env w o K := by
 obtain ⟨i0, hi, hzz⟩ := Option.map_eq_some_iff.1 hinfo
 simp only [Prod.mk.injEq] at hzz
 obtain ⟨hz0, hz1, hz2⟩ := hzz
 have hmb : bytes * m ≤ 64 * 1000000 := Nat.mul_le_mul hb hm
 have hr := run_make (P := P) w t e i0 z ht hi hz0 .i64 .i64 (m : Int) (m : Int) (by omega) (by omega) (by rw [hz2]; omega) (by omega)
 simp only [Int.toNat_natCast] at hr
 rw [hz1, Nat.mul_one, hz] at hr
 refine ST.ev (v := .slice (some ⟨w.heap.size, 0, none⟩) m m) (w1 := w.alloc (.cells (madeCells #[z] m) e (0, 0))) (fun a ha => ?_) (h _ _ rfl ?_ (below_alloc (Below.refl _ _) _))
 ·unfold execOp; rw [ho]; simp only []; rw [ha.eval hx, ha.eval hy]
  simp [go_sem, hr]
 ·have : madeCells #[z] m = (List.replicate m z).toArray := by
   apply Array.ext
   ·simp [size_madeCells]
   ·intro j h1 h2
    simp [madeCells, Nat.mod_one]
  rw [← this]
  exact blk_new w _
theorem u64_in (v : Int) (h : 0 ≤ v ∧ v ≤ 18446744073709551615) : IntKind.u64.wrap v = v := by
 simp [IntKind.wrap, IntKind.bits, IntKind.signed]
 omega
theorem Runs.low32 {t u : TypeId} {x y : Operand} {a : Nat} (ho : o.op = .binOp .and t x y u) (hx : Ev env x (.int .u64 a)) (hy : Ev env y (.int .u64 4294967295)) (ha : a < 2 ^ 32) : Runs P N env o w (.int .u64 a) := by
 have h := Runs.and (P := P) (N := N) (w := w) (b := 4294967295) (.inl rfl) ho hx hy ha (by decide)
 have e : a &&& 4294967295 = a := by
  have := Nat.and_two_pow_sub_one_eq_mod a 32
  rw [show 2 ^ 32 - 1 = 4294967295 from rfl] at this
  rw [this, Nat.mod_eq_of_lt ha]
 rwa [e] at h
theorem Runs.hi32 {t u : TypeId} {x y : Operand} {k' : IntKind} {a : Nat} (ho : o.op = .binOp .shr t x y u) (hx : Ev env x (.int .u64 a)) (hy : Ev env y (.int k' 32)) (ha : a < 2 ^ 32) : Runs P N env o w (.int .u64 0) := by
 have h := Runs.shr (P := P) (N := N) (w := w) (n := 32) (.inl rfl) ho hx hy (by decide)
 rw [Nat.div_eq_of_lt ha] at h
 exact h
end
end Go.Proofs.Ytkjefnlhhfpllaa.E
namespace Go.Proofs.Ytkjefnlhhfpllaa.T
open Go.RowKit Go.Proofs.YtkjefnlhhfpllaaW.PrintWords Go.Proofs.YtkjefnlhhfpllaaW.PrintMore
open Go.Proofs.Ytkjefnlhhfpllaa.P
set_option linter.unusedVariables false
set_option maxRecDepth 100000 in
theorem info_some {t : TypeId} {n : Nat} (h : (Try.prog.info? t).map (·.size) = some n) (hn : n ≠ 0) : E.Sized Try.prog t ∧ Try.prog.cellsOf t = n := by
 cases hq : Try.prog.info? t with
 | none => simp [hq] at h
 | some i =>
  have hs : i.size = n := by simpa [hq] using h
  have hc : Try.prog.cellsOf t = n := by simp [Program.cellsOf, hq, hs]
  exact ⟨⟨i, hq, by rw [hc]; exact hn⟩, hc⟩
theorem blk_cells {w : World} {g : Nat} {t : TypeId} {cs : List Value} (h : w.heap[g]? = some (.cells cs.toArray t (0, 0))) (j : Nat) (v : Value) (hv : cs[j]? = some v) : w.cell? ((⟨g, 0, none⟩ : Addr).add j) = some v := by
 have := blk_cell h j
 rw [Addr.add_mid, Nat.zero_add, this]
 simpa using hv

theorem four_one (a b c d : Int) : (#[.int .i64 a, .int .i64 b, .int .i64 c, .int .i64 d] : Array Value).all (·.oneCell') = true := by simp [Value.oneCell']
theorem info3s : (Try.prog.info? 3).map (·.size) = some 1 := by kernel_rfl
theorem info4s : (Try.prog.info? 4).map (·.size) = some 1 := by kernel_rfl
theorem info4z : (Try.prog.info? 4).map (·.zero) = some (some (.bool false)) := by kernel_rfl
theorem info22s : (Try.prog.info? 22).map (·.size) = some 1 := by kernel_rfl
theorem info24s : (Try.prog.info? 24).map (·.size) = some 2 := by kernel_rfl
theorem info24z : (Try.prog.info? 24).map (·.zero) = some (some (.agg #[.slice none 0 0, .int .i64 0])) := by kernel_rfl
theorem info25s : (Try.prog.info? 25).map (·.size) = some 1 := by kernel_rfl
theorem info26s : (Try.prog.info? 26).map (·.size) = some 1 := by kernel_rfl
theorem info27s : (Try.prog.info? 27).map (·.size) = some 1 := by kernel_rfl
theorem info29s : (Try.prog.info? 29).map (·.size) = some 3 := by kernel_rfl
theorem info29z : (Try.prog.info? 29).map (·.zero) = some (some (.agg #[.int .i64 0, .slice none 0 0, .slice none 0 0])) := by kernel_rfl
theorem info31s : (Try.prog.info? 31).map (·.size) = some 4 := by kernel_rfl
theorem info31z : (Try.prog.info? 31).map (·.zero) = some (some (.agg #[.int .i64 0, .int .i64 0, .int .i64 0, .int .i64 0])) := by kernel_rfl
theorem info34s : (Try.prog.info? 34).map (·.size) = some 1 := by kernel_rfl
theorem info36s : (Try.prog.info? 36).map (·.size) = some 9 := by kernel_rfl
theorem info36z : (Try.prog.info? 36).map (·.zero) = some (some (.agg #[.int .i64 0, .int .i64 0, .int .i64 0, .slice none 0 0, .slice none 0 0, .int .i64 0, .int .i64 0, .int .i64 0, .int .i64 0])) := by kernel_rfl
theorem info45s : (Try.prog.info? 45).map (·.size) = some 1 := by kernel_rfl
theorem info50s : (Try.prog.info? 50).map (·.size) = some 4 := by kernel_rfl
theorem info50z : (Try.prog.info? 50).map (·.zero) = some (some (.agg #[.int .i64 0, .int .i64 0, .int .i64 0, .int .i64 0])) := by kernel_rfl
theorem info55s : (Try.prog.info? 55).map (·.size) = some 6 := by kernel_rfl
theorem info55z : (Try.prog.info? 55).map (·.zero) = some (some (.agg #[.int .i64 0, .int .i64 0, .int .i64 0, .int .i64 0, .int .i64 0, .int .i64 0])) := by kernel_rfl
theorem info57s : (Try.prog.info? 57).map (·.size) = some 6 := by kernel_rfl
theorem info57z : (Try.prog.info? 57).map (·.zero) = some (some (.agg #[.int .i64 0, .int .i64 0, .int .i64 0, .int .i64 0, .int .i64 0, .int .i64 0])) := by kernel_rfl
theorem info64s : (Try.prog.info? 64).map (·.size) = some 5 := by kernel_rfl
theorem info64z : (Try.prog.info? 64).map (·.zero) = some (some (.agg #[.int .i64 0, .int .i64 0, .int .i64 0, .int .i64 0, .int .i64 0])) := by kernel_rfl
theorem info86s : (Try.prog.info? 86).map (·.size) = some 2 := by kernel_rfl
theorem info86z : (Try.prog.info? 86).map (·.zero) = some (some (.agg #[.int .i64 0, .int .i64 0])) := by kernel_rfl
theorem info72s : (Try.prog.info? 72).map (·.size) = some 1 := by kernel_rfl
theorem info77z : (Try.prog.info? 77).map (·.zero) = some (some (.pointer none)) := by kernel_rfl
theorem ent4 (args : Array Value) (W : World) : (callFunc 4 args).run Try.prog W = .ok (.enter 4 args) W := by go_simp
theorem ent5 (args : Array Value) (W : World) : (callFunc 5 args).run Try.prog W = .ok (.enter 5 args) W := by go_simp
theorem ent6 (args : Array Value) (W : World) : (callFunc 6 args).run Try.prog W = .ok (.enter 6 args) W := by go_simp
theorem ent7 (args : Array Value) (W : World) : (callFunc 7 args).run Try.prog W = .ok (.enter 7 args) W := by go_simp
theorem ent8 (args : Array Value) (W : World) : (callFunc 8 args).run Try.prog W = .ok (.enter 8 args) W := by go_simp
theorem ent9 (args : Array Value) (W : World) : (callFunc 9 args).run Try.prog W = .ok (.enter 9 args) W := by go_simp
theorem ent10 (args : Array Value) (W : World) : (callFunc 10 args).run Try.prog W = .ok (.enter 10 args) W := by go_simp
theorem ent11 (args : Array Value) (W : World) : (callFunc 11 args).run Try.prog W = .ok (.enter 11 args) W := by go_simp
theorem ent12 (args : Array Value) (W : World) : (callFunc 12 args).run Try.prog W = .ok (.enter 12 args) W := by go_simp
theorem ent13 (args : Array Value) (W : World) : (callFunc 13 args).run Try.prog W = .ok (.enter 13 args) W := by go_simp
theorem ent14 (args : Array Value) (W : World) : (callFunc 14 args).run Try.prog W = .ok (.enter 14 args) W := by go_simp
theorem ent15 (args : Array Value) (W : World) : (callFunc 15 args).run Try.prog W = .ok (.enter 15 args) W := by go_simp
theorem ent16 (args : Array Value) (W : World) : (callFunc 16 args).run Try.prog W = .ok (.enter 16 args) W := by go_simp
theorem ent17 (args : Array Value) (W : World) : (callFunc 17 args).run Try.prog W = .ok (.enter 17 args) W := by go_simp
theorem ent18 (args : Array Value) (W : World) : (callFunc 18 args).run Try.prog W = .ok (.enter 18 args) W := by go_simp
theorem ent19 (args : Array Value) (W : World) : (callFunc 19 args).run Try.prog W = .ok (.enter 19 args) W := by go_simp
theorem ent20 (args : Array Value) (W : World) : (callFunc 20 args).run Try.prog W = .ok (.enter 20 args) W := by go_simp
theorem ent21 (args : Array Value) (W : World) : (callFunc 21 args).run Try.prog W = .ok (.enter 21 args) W := by go_simp
theorem ent22 (args : Array Value) (W : World) : (callFunc 22 args).run Try.prog W = .ok (.enter 22 args) W := by go_simp
theorem ent23 (args : Array Value) (W : World) : (callFunc 23 args).run Try.prog W = .ok (.enter 23 args) W := by go_simp
theorem ent24 (args : Array Value) (W : World) : (callFunc 24 args).run Try.prog W = .ok (.enter 24 args) W := by go_simp
theorem ent25 (args : Array Value) (W : World) : (callFunc 25 args).run Try.prog W = .ok (.enter 25 args) W := by go_simp
theorem ent26 (args : Array Value) (W : World) : (callFunc 26 args).run Try.prog W = .ok (.enter 26 args) W := by go_simp
theorem ent27 (args : Array Value) (W : World) : (callFunc 27 args).run Try.prog W = .ok (.enter 27 args) W := by go_simp
theorem ent28 (args : Array Value) (W : World) : (callFunc 28 args).run Try.prog W = .ok (.enter 28 args) W := by go_simp
theorem ent29 (args : Array Value) (W : World) : (callFunc 29 args).run Try.prog W = .ok (.enter 29 args) W := by go_simp
theorem ent30 (args : Array Value) (W : World) : (callFunc 30 args).run Try.prog W = .ok (.enter 30 args) W := by go_simp
theorem ent31 (args : Array Value) (W : World) : (callFunc 31 args).run Try.prog W = .ok (.enter 31 args) W := by go_simp
theorem ent32 (args : Array Value) (W : World) : (callFunc 32 args).run Try.prog W = .ok (.enter 32 args) W := by go_simp
theorem ent33 (args : Array Value) (W : World) : (callFunc 33 args).run Try.prog W = .ok (.enter 33 args) W := by go_simp
theorem ent34 (args : Array Value) (W : World) : (callFunc 34 args).run Try.prog W = .ok (.enter 34 args) W := by go_simp
theorem ent35 (args : Array Value) (W : World) : (callFunc 35 args).run Try.prog W = .ok (.enter 35 args) W := by go_simp
theorem ent36 (args : Array Value) (W : World) : (callFunc 36 args).run Try.prog W = .ok (.enter 36 args) W := by go_simp
theorem ent37 (args : Array Value) (W : World) : (callFunc 37 args).run Try.prog W = .ok (.enter 37 args) W := by go_simp
theorem ent38 (args : Array Value) (W : World) : (callFunc 38 args).run Try.prog W = .ok (.enter 38 args) W := by go_simp
theorem ent39 (args : Array Value) (W : World) : (callFunc 39 args).run Try.prog W = .ok (.enter 39 args) W := by go_simp
theorem ent40 (args : Array Value) (W : World) : (callFunc 40 args).run Try.prog W = .ok (.enter 40 args) W := by go_simp
theorem ent41 (args : Array Value) (W : World) : (callFunc 41 args).run Try.prog W = .ok (.enter 41 args) W := by go_simp
theorem ent42 (args : Array Value) (W : World) : (callFunc 42 args).run Try.prog W = .ok (.enter 42 args) W := by go_simp
theorem ent43 (args : Array Value) (W : World) : (callFunc 43 args).run Try.prog W = .ok (.enter 43 args) W := by go_simp
theorem ent44 (args : Array Value) (W : World) : (callFunc 44 args).run Try.prog W = .ok (.enter 44 args) W := by go_simp
theorem ent45 (args : Array Value) (W : World) : (callFunc 45 args).run Try.prog W = .ok (.enter 45 args) W := by go_simp
theorem ent46 (args : Array Value) (W : World) : (callFunc 46 args).run Try.prog W = .ok (.enter 46 args) W := by go_simp
theorem ent47 (args : Array Value) (W : World) : (callFunc 47 args).run Try.prog W = .ok (.enter 47 args) W := by go_simp
theorem ent48 (args : Array Value) (W : World) : (callFunc 48 args).run Try.prog W = .ok (.enter 48 args) W := by go_simp
theorem ent49 (args : Array Value) (W : World) : (callFunc 49 args).run Try.prog W = .ok (.enter 49 args) W := by go_simp
theorem ent50 (args : Array Value) (W : World) : (callFunc 50 args).run Try.prog W = .ok (.enter 50 args) W := by go_simp
theorem ent51 (args : Array Value) (W : World) : (callFunc 51 args).run Try.prog W = .ok (.enter 51 args) W := by go_simp
theorem ent52 (args : Array Value) (W : World) : (callFunc 52 args).run Try.prog W = .ok (.enter 52 args) W := by go_simp
theorem ent53 (args : Array Value) (W : World) : (callFunc 53 args).run Try.prog W = .ok (.enter 53 args) W := by go_simp
theorem ent54 (args : Array Value) (W : World) : (callFunc 54 args).run Try.prog W = .ok (.enter 54 args) W := by go_simp
theorem ent55 (args : Array Value) (W : World) : (callFunc 55 args).run Try.prog W = .ok (.enter 55 args) W := by go_simp
theorem ent56 (args : Array Value) (W : World) : (callFunc 56 args).run Try.prog W = .ok (.enter 56 args) W := by go_simp
theorem ent57 (args : Array Value) (W : World) : (callFunc 57 args).run Try.prog W = .ok (.enter 57 args) W := by go_simp
theorem ent58 (args : Array Value) (W : World) : (callFunc 58 args).run Try.prog W = .ok (.enter 58 args) W := by go_simp
theorem ent59 (args : Array Value) (W : World) : (callFunc 59 args).run Try.prog W = .ok (.enter 59 args) W := by go_simp
theorem ent60 (args : Array Value) (W : World) : (callFunc 60 args).run Try.prog W = .ok (.enter 60 args) W := by go_simp
theorem ent61 (args : Array Value) (W : World) : (callFunc 61 args).run Try.prog W = .ok (.enter 61 args) W := by go_simp
theorem ent62 (args : Array Value) (W : World) : (callFunc 62 args).run Try.prog W = .ok (.enter 62 args) W := by go_simp
theorem ent63 (args : Array Value) (W : World) : (callFunc 63 args).run Try.prog W = .ok (.enter 63 args) W := by go_simp
theorem ent64 (args : Array Value) (W : World) : (callFunc 64 args).run Try.prog W = .ok (.enter 64 args) W := by go_simp
theorem ent65 (args : Array Value) (W : World) : (callFunc 65 args).run Try.prog W = .ok (.enter 65 args) W := by go_simp
theorem ent66 (args : Array Value) (W : World) : (callFunc 66 args).run Try.prog W = .ok (.enter 66 args) W := by go_simp
theorem ent67 (args : Array Value) (W : World) : (callFunc 67 args).run Try.prog W = .ok (.enter 67 args) W := by go_simp
theorem ent68 (args : Array Value) (W : World) : (callFunc 68 args).run Try.prog W = .ok (.enter 68 args) W := by go_simp
theorem ent69 (args : Array Value) (W : World) : (callFunc 69 args).run Try.prog W = .ok (.enter 69 args) W := by go_simp
theorem ent70 (args : Array Value) (W : World) : (callFunc 70 args).run Try.prog W = .ok (.enter 70 args) W := by go_simp
theorem ent71 (args : Array Value) (W : World) : (callFunc 71 args).run Try.prog W = .ok (.enter 71 args) W := by go_simp
theorem ent72 (args : Array Value) (W : World) : (callFunc 72 args).run Try.prog W = .ok (.enter 72 args) W := by go_simp
theorem ent73 (args : Array Value) (W : World) : (callFunc 73 args).run Try.prog W = .ok (.enter 73 args) W := by go_simp
theorem ent74 (args : Array Value) (W : World) : (callFunc 74 args).run Try.prog W = .ok (.enter 74 args) W := by go_simp
theorem ent75 (args : Array Value) (W : World) : (callFunc 75 args).run Try.prog W = .ok (.enter 75 args) W := by go_simp
theorem ent76 (args : Array Value) (W : World) : (callFunc 76 args).run Try.prog W = .ok (.enter 76 args) W := by go_simp
theorem ent77 (args : Array Value) (W : World) : (callFunc 77 args).run Try.prog W = .ok (.enter 77 args) W := by go_simp
theorem ent80 (args : Array Value) (W : World) : (callFunc 80 args).run Try.prog W = .ok (.enter 80 args) W := by go_simp
theorem ent81 (args : Array Value) (W : World) : (callFunc 81 args).run Try.prog W = .ok (.enter 81 args) W := by go_simp
theorem ent91 (args : Array Value) (W : World) : (callFunc 91 args).run Try.prog W = .ok (.enter 91 args) W := by go_simp
theorem ent98 (args : Array Value) (W : World) : (callFunc 98 args).run Try.prog W = .ok (.enter 98 args) W := by go_simp
theorem ent99 (args : Array Value) (W : World) : (callFunc 99 args).run Try.prog W = .ok (.enter 99 args) W := by go_simp
end Go.Proofs.Ytkjefnlhhfpllaa.T
namespace Go.Proofs.Ytkjefnlhhfpllaa.T
open Go.RowKit Go.Proofs.YtkjefnlhhfpllaaW.PrintWords Go.Proofs.YtkjefnlhhfpllaaW.PrintMore
open Go.Proofs.Ytkjefnlhhfpllaa.P
set_option linter.unusedVariables false
set_option linter.unusedSimpArgs false
/-- Books: the tax, contracts, reports. -/
structure Bk where
 tax : Int
 cs : List S36
 rs : List S55
/-- Where they lie. -/
structure Ba where
 A : Option Addr
 a : Nat
 B : Option Addr
 b : Nat
abbrev bv (V : Bk) (m : Ba) : Value := .agg #[.int .i64 V.tax, .slice m.A V.cs.length m.a, .slice m.B V.rs.length m.b]
abbrev kI : Kd Int := Kd.int .i64
structure BM (w : World) (V : Bk) (m : Ba) : Prop where
 cs : Kd.C k36 w m.A V.cs.length V.cs
 rs : Kd.C k55 w m.B V.rs.length V.rs
theorem BM.below {w w' : World} {V : Bk} {m : Ba} (h : BM w V m) (l : Below w.heap.size w w') : BM w' V m := ⟨Kd.C_below h.cs l, Kd.C_below h.rs l⟩
/-- Not far too much of something. -/
structure Sz (V : Bk) : Prop where
 c : V.cs.length ≤ 1000000
 s : ∀ x ∈ V.cs, x.f3.length ≤ 1000000
 t : ∀ x ∈ V.cs, x.f4.length ≤ 1000000
 r : V.rs.length ≤ 1000000
def inR (n lo hi : Int) : Prop := lo ≤ n ∧ n ≤ hi
instance (n lo hi : Int) : Decidable (inR n lo hi) := by unfold inR; infer_instance
def AllR (l : List Int) (lo hi : Int) : Prop := ∀ x ∈ l, lo ≤ x ∧ x ≤ hi
/-- The numbers of a contract are within their bounds. -/
def CNum (x : S36) : Prop := inR x.f0 0 99 ∧ 0 ≤ x.f1 ∧ x.f1 ≤ x.f2 ∧ x.f2 ≤ 99 ∧ (1 ≤ (x.f3.length : Int) ∧ (x.f3.length : Int) ≤ 6) ∧ (x.f4.length : Int) ≤ 4 ∧ inR x.f5 0 10000000 ∧ inR x.f7 0 10000000 ∧ inR x.f6 0 1000 ∧ inR x.f8 0 100000000
def TrOk (l : List S86) (i : Nat) (t : S86) : Prop := inR t.f0 0 10000000 ∧ inR t.f1 0 1000 ∧ ∀ j s, i = j + 1 → l[j]? = some s → s.f0 < t.f0
/-- A contract is valid by itself. -/
structure COk (x : S36) : Prop where
 n : CNum x
 st : AllR x.f3 0 1000
 ti : ∀ i t, x.f4[i]? = some t → TrOk x.f4 i t
/-- A report fits contracts. -/
structure ROk (cs : List S36) (r : S55) : Prop where
 ex : ∃ c ∈ cs, c.f0 = r.f2
 wk : ∀ c ∈ cs, c.f0 = r.f2 → inR r.f3 c.f1 c.f2
 n : inR r.f0 0 99 ∧ inR r.f1 1 2 ∧ inR r.f4 0 9 ∧ inR r.f5 0 10000000
/-- No two contracts are for one film. -/
def Dis (cs : List S36) : Prop := ∀ (i j : Nat) c d, i < j → cs[i]? = some c → cs[j]? = some d → c.f0 ≠ d.f0
/-- Books are valid, but for their reports. -/
structure BOk (V : Bk) : Prop where
 tax : inR V.tax 0 500
 n : (V.cs.length : Int) ≤ 6
 cs : ∀ x ∈ V.cs, COk x
 d : Dis V.cs
theorem bool_no {b : Bool} {p : Prop} (h : b = true ↔ p) (k : ¬ p) : b = false := Bool.eq_false_iff.mpr (fun hb => k (h.mp hb))
theorem all_more {α : Type} {p : α → Prop} {l : List α} {n : Nat} {g : α} (h : ∀ k, k < n → ∀ x, l[k]? = some x → p x) (hg : l[n]? = some g) (k : p g) : ∀ k, k < n + 1 → ∀ x, l[k]? = some x → p x := by
 intro j hj x hx
 by_cases e : j = n
 ·subst e
  rw [hg] at hx
  cases hx
  exact k
 ·exact h j (by omega) x hx
theorem all_done {α : Type} {p : α → Prop} {l : List α} {n : Nat} (h : ∀ k, k < n → ∀ x, l[k]? = some x → p x) (hn : l.length ≤ n) : ∀ x ∈ l, p x := fun g hg => by
 obtain ⟨k, hk⟩ := List.mem_iff_getElem?.mp hg
 exact h k (by have := (List.getElem?_eq_some_iff.1 hk).1; omega) g hk
theorem get_ex {α : Type} {l : List α} {i : Nat} (h : i < l.length) : ∃ x, l[i]? = some x := ⟨_, List.getElem?_eq_getElem h⟩
theorem get_lt {α : Type} {l : List α} {i : Nat} {x : α} (h : l[i]? = some x) : i < l.length := (List.getElem?_eq_some_iff.1 h).1
theorem mem_of {α : Type} {l : List α} {i : Nat} {x : α} (h : l[i]? = some x) : x ∈ l := List.mem_of_getElem? h
theorem int_at {w : World} {A : Option Addr} {n : Nat} {xs : List Int} (h : Kd.C kI w A n xs) {i : Nat} {x : Int} (hi : xs[i]? = some x) : ∃ ad, A = some ad ∧ w.cell? (ad.add (i * 1)) = some (.int .i64 x) := by
 have hil : i < xs.length := (List.getElem?_eq_some_iff.1 hi).1
 have hn := Kd.C_len h
 obtain ⟨ad, e, m⟩ := Kd.at_int h (i : Int) (by omega) (by omega)
 refine ⟨ad, e, ?_⟩
 rw [Int.toNat_natCast] at m
 rw [Nat.mul_one, m]
 unfold rd
 simp [List.getD_eq_getElem?_getD, hi]
/-- The cells of an element in a row. -/
theorem el_at {α : Type} {d : Kd α} {w : World} {A : Option Addr} {n : Nat} {l : List α} (h : Kd.C d w A n l) {i : Nat} {x : α} (hi : l[i]? = some x) : ∃ ad cs, A = some ad ∧ d.K w x cs ∧ ∀ j u, cs[j]? = some u → w.cell? ((ad.add (i * d.sz)).add j) = some u := by
 have hil : i < l.length := (List.getElem?_eq_some_iff.1 hi).1
 have hn := Kd.C_len h
 obtain ⟨ad, c, e, _, hK, hc0⟩ := Kd.C_get h x (i : Int) (by omega) (by omega)
 have hx : l.getD i x = x := by simp [List.getD_eq_getElem?_getD, hi]
 rw [Int.toNat_natCast, hx] at hK
 rw [Int.toNat_natCast] at hc0
 refine ⟨ad, c, e, hK, fun j u hu => ?_⟩
 have := hc0 j u hu
 rw [← this]
 congr 1
 exact add_add _ _ _
abbrev rC (x : S55) : List Value := [.int .i64 x.f0, .int .i64 x.f1, .int .i64 x.f2, .int .i64 x.f3, .int .i64 x.f4, .int .i64 x.f5]
abbrev lC (x : S64) : List Value := [.int .i64 x.f0, .int .i64 x.f1, .int .i64 x.f2, .int .i64 x.f3, .int .i64 x.f4]
abbrev tC (x : S86) : List Value := [.int .i64 x.f0, .int .i64 x.f1]
abbrev cC (x : S36) (a : Option Addr) (k : Nat) (b : Option Addr) (l : Nat) : List Value := [.int .i64 x.f0, .int .i64 x.f1, .int .i64 x.f2, .slice a x.f3.length k, .slice b x.f4.length l, .int .i64 x.f5, .int .i64 x.f6, .int .i64 x.f7, .int .i64 x.f8]
theorem rep_at {w : World} {A : Option Addr} {n : Nat} {l : List S55} (h : Kd.C k55 w A n l) {i : Nat} {x : S55} (hi : l[i]? = some x) : ∃ ad, A = some ad ∧ ∀ j u, (rC x)[j]? = some u → w.cell? ((ad.add (i * 6)).add j) = some u := by
 obtain ⟨ad, cs, e, hK, hc⟩ := el_at h hi
 obtain rfl := k55_open hK
 exact ⟨ad, e, hc⟩
theorem call_at {w : World} {A : Option Addr} {n : Nat} {l : List S64} (h : Kd.C k64 w A n l) {i : Nat} {x : S64} (hi : l[i]? = some x) : ∃ ad, A = some ad ∧ ∀ j u, (lC x)[j]? = some u → w.cell? ((ad.add (i * 5)).add j) = some u := by
 obtain ⟨ad, cs, e, hK, hc⟩ := el_at h hi
 obtain rfl := k64_open hK
 exact ⟨ad, e, hc⟩
theorem tier_at {w : World} {A : Option Addr} {n : Nat} {l : List S86} (h : Kd.C k86 w A n l) {i : Nat} {x : S86} (hi : l[i]? = some x) : ∃ ad, A = some ad ∧ ∀ j u, (tC x)[j]? = some u → w.cell? ((ad.add (i * 2)).add j) = some u := by
 obtain ⟨ad, cs, e, hK, hc⟩ := el_at h hi
 obtain rfl := k86_open hK
 exact ⟨ad, e, hc⟩
/-- The cells of a contract in a row: where its steps and tiers lie. -/
structure CM (w : World) (x : S36) (a : Option Addr) (k : Nat) (b : Option Addr) (l : Nat) : Prop where
 s : Kd.C kI w a x.f3.length x.f3
 t : Kd.C k86 w b x.f4.length x.f4
 sk : x.f3.length ≤ k
 tk : x.f4.length ≤ l
theorem CM.below {w w' : World} {x : S36} {a b : Option Addr} {k l : Nat} (h : CM w x a k b l) (q : Below w.heap.size w w') : CM w' x a k b l := ⟨Kd.C_below h.s q, Kd.C_below h.t q, h.sk, h.tk⟩
theorem con_at {w : World} {A : Option Addr} {n : Nat} {l : List S36} (h : Kd.C k36 w A n l) {i : Nat} {x : S36} (hi : l[i]? = some x) : ∃ ad a k b c, A = some ad ∧ CM w x a k b c ∧ ∀ j u, (cC x a k b c)[j]? = some u → w.cell? ((ad.add (i * 9)).add j) = some u := by
 obtain ⟨ad, cs, e, hK, hc⟩ := el_at h hi
 obtain ⟨a, k, b, c, rfl, q1, q2, q3, q4⟩ := k36_open hK
 exact ⟨ad, a, k, b, c, e, ⟨q2, q4, q1, q3⟩, hc⟩
theorem mul_small {x y a b : Int} (h1 : 0 ≤ x) (h2 : x ≤ a) (h3 : 0 ≤ y) (h4 : y ≤ b) : 0 ≤ x * y ∧ x * y ≤ a * b := ⟨Int.mul_nonneg h1 h3, Int.le_trans (Int.mul_le_mul_of_nonneg_left h4 h1) (Int.mul_le_mul_of_nonneg_right h2 (Int.le_trans h3 h4))⟩
theorem c_pre {α : Type} {d : Kd α} {w : World} {A : Option Addr} {n : Nat} {l : List α} (h : Kd.C d w A n l) (i : Nat) (hi : i ≤ l.length) : Kd.C d w A i (l.take i) := by
 obtain ⟨h1, h2, h3⟩ := h
 refine ⟨by rw [List.length_take]; omega, by omega, fun hn => ?_⟩
 obtain ⟨ad, e, hc⟩ := h3 (by omega)
 refine ⟨ad, e, fun j x hx => ?_⟩
 rw [List.getElem?_take] at hx
 split at hx
 ·exact hc j x hx
 ·exact absurd hx (by simp)
instance : DecidableEq S55 := fun x y => if h : x.f0 = y.f0 ∧ x.f1 = y.f1 ∧ x.f2 = y.f2 ∧ x.f3 = y.f3 ∧ x.f4 = y.f4 ∧ x.f5 = y.f5 then isTrue (by obtain ⟨a, b, c, d, e, f⟩ := x; obtain ⟨a', b', c', d', e', f'⟩ := y; obtain ⟨h1, h2, h3, h4, h5, h6⟩ := h; cases h1; cases h2; cases h3; cases h4; cases h5; cases h6; rfl) else isFalse fun q => by subst q; exact h ⟨rfl, rfl, rfl, rfl, rfl, rfl⟩
instance : DecidableEq S64 := fun x y => if h : x.f0 = y.f0 ∧ x.f1 = y.f1 ∧ x.f2 = y.f2 ∧ x.f3 = y.f3 ∧ x.f4 = y.f4 then isTrue (by obtain ⟨a, b, c, d, e⟩ := x; obtain ⟨a', b', c', d', e'⟩ := y; obtain ⟨h1, h2, h3, h4, h5⟩ := h; cases h1; cases h2; cases h3; cases h4; cases h5; rfl) else isFalse fun q => by subst q; exact h ⟨rfl, rfl, rfl, rfl, rfl⟩
theorem rep_one (x : S55) : (#[.int .i64 x.f0, .int .i64 x.f1, .int .i64 x.f2, .int .i64 x.f3, .int .i64 x.f4, .int .i64 x.f5] : Array Value).all (·.oneCell') = true := by simp [Value.oneCell']
theorem call_one (x : S64) : (#[.int .i64 x.f0, .int .i64 x.f1, .int .i64 x.f2, .int .i64 x.f3, .int .i64 x.f4] : Array Value).all (·.oneCell') = true := by simp [Value.oneCell']
theorem tier_one (x : S86) : (#[.int .i64 x.f0, .int .i64 x.f1] : Array Value).all (·.oneCell') = true := by simp [Value.oneCell']
theorem int6_one (a b c d e f : Int) : (#[.int .i64 a, .int .i64 b, .int .i64 c, .int .i64 d, .int .i64 e, .int .i64 f] : Array Value).all (·.oneCell') = true := by simp [Value.oneCell']
theorem con_one (x0 x1 x2 : Int) (a b : Option Addr) (n k m l : Nat) (x5 x6 x7 x8 : Int) : (#[.int .i64 x0, .int .i64 x1, .int .i64 x2, .slice a n k, .slice b m l, .int .i64 x5, .int .i64 x6, .int .i64 x7, .int .i64 x8] : Array Value).all (·.oneCell') = true := by simp [Value.oneCell']
theorem books_one (t : Int) (A B : Option Addr) (n k m l : Nat) : (#[.int .i64 t, .slice A n k, .slice B m l] : Array Value).all (·.oneCell') = true := by simp [Value.oneCell']
end Go.Proofs.Ytkjefnlhhfpllaa.T
namespace Go.Proofs.Ytkjefnlhhfpllaa.T
open Go.RowKit Go.Proofs.YtkjefnlhhfpllaaW.PrintWords Go.Proofs.YtkjefnlhhfpllaaW.PrintMore
open Go.Proofs.Ytkjefnlhhfpllaa.P
set_option linter.unusedVariables false
set_option linter.unusedSimpArgs false

set_option maxRecDepth 100000 in
set_option maxHeartbeats 8000000 in

theorem within_s (n lo hi : Int) (b : Bool) (h : b = true ↔ inR n lo hi) (w : World) :
  Calls Try.prog 23 #[.int .i64 n, .int .i64 lo, .int .i64 hi] w fun e w' => e = .returned (.bool b) ∧ Below w.heap.size w w' := by
 unfold inR at h
 refine E.enter (N := 15) Try.func23 rfl Try.ntmps23 (args := [.int .i64 n, .int .i64 lo, .int .i64 hi]) (by simp) ?_
 have L := Below.refl w.heap.size w
 refine E.cs (E.cl (E.ga rfl rfl rfl (E.gd (E.qc (E.cs (E.cl (E.gm rfl rfl rfl (E.gm rfl rfl rfl ?_))))))))
 refine E.GL.cmp rfl rfl rfl (fun _ h => (E.Runs.leq rfl rfl rfl h)) (fun h9 => ?_) (fun h9 => ?_)
 ·refine E.gm rfl rfl rfl (E.gm rfl rfl rfl (E.gm rfl rfl rfl ?_))
  refine E.GL.cmp rfl rfl rfl (fun _ h => (E.Runs.leq rfl rfl rfl h)) (fun h13 => ?_) (fun h13 => ?_)
  ·refine E.gt rfl rfl rfl rfl (E.ga rfl rfl rfl (E.gd (E.qc (E.CG.ret ?_))))
   exact E.QG.result rfl rfl ⟨by rw [h.mpr ⟨by omega, by omega⟩], L⟩
  ·refine E.gt rfl rfl rfl rfl (E.ga rfl rfl rfl (E.gd (E.qc (E.CG.ret ?_))))
   exact E.QG.result rfl rfl ⟨by rw [bool_no h (by omega)], L⟩
 ·refine E.gm rfl rfl rfl (E.gk rfl (E.gk rfl (E.gk rfl (E.gr rfl (E.Runs.pick_f rfl rfl rfl) ?_))))
  refine E.ga rfl rfl rfl (E.gd (E.qc (E.CG.ret ?_)))
  exact E.QG.result rfl rfl ⟨by rw [bool_no h (by omega)], L⟩

set_option maxRecDepth 100000 in
set_option maxHeartbeats 8000000 in

theorem within_q (n lo hi : Int) (b : Bool) (h : b = true ↔ inR n lo hi) (w : World) :
  Calls Try.prog 28 #[.int .i64 n, .int .i64 lo, .int .i64 hi] w fun e w' => e = .returned (.bool b) ∧ Below w.heap.size w w' := by
 unfold inR at h
 refine E.enter (N := 15) Try.func28 rfl Try.ntmps28 (args := [.int .i64 n, .int .i64 lo, .int .i64 hi]) (by simp) ?_
 have L := Below.refl w.heap.size w
 refine E.cs (E.cl (E.ga rfl rfl rfl (E.gd (E.qc (E.cs (E.cl (E.gm rfl rfl rfl (E.gm rfl rfl rfl ?_))))))))
 refine E.GL.cmp rfl rfl rfl (fun _ h => (E.Runs.geq rfl rfl rfl h)) (fun h9 => ?_) (fun h9 => ?_)
 ·refine E.gm rfl rfl rfl (E.gm rfl rfl rfl (E.gm rfl rfl rfl ?_))
  refine E.GL.cmp rfl rfl rfl (fun _ h => (E.Runs.leq rfl rfl rfl h)) (fun h13 => ?_) (fun h13 => ?_)
  ·refine E.gt rfl rfl rfl rfl (E.ga rfl rfl rfl (E.gd (E.qc (E.CG.ret ?_))))
   exact E.QG.result rfl rfl ⟨by rw [h.mpr ⟨by omega, by omega⟩], L⟩
  ·refine E.gt rfl rfl rfl rfl (E.ga rfl rfl rfl (E.gd (E.qc (E.CG.ret ?_))))
   exact E.QG.result rfl rfl ⟨by rw [bool_no h (by omega)], L⟩
 ·refine E.gm rfl rfl rfl (E.gk rfl (E.gk rfl (E.gk rfl (E.gr rfl (E.Runs.pick_f rfl rfl rfl) ?_))))
  refine E.ga rfl rfl rfl (E.gd (E.qc (E.CG.ret ?_)))
  exact E.QG.result rfl rfl ⟨by rw [bool_no h (by omega)], L⟩

set_option maxRecDepth 100000 in
set_option maxHeartbeats 8000000 in

theorem within_r (n lo hi : Int) (b : Bool) (h : b = true ↔ inR n lo hi) (w : World) :
  Calls Try.prog 26 #[.int .i64 n, .int .i64 lo, .int .i64 hi] w fun e w' => e = .returned (.bool b) ∧ Below w.heap.size w w' := by
 unfold inR at h
 refine E.enter (N := 15) Try.func26 rfl Try.ntmps26 (args := [.int .i64 n, .int .i64 lo, .int .i64 hi]) (by simp) ?_
 have L := Below.refl w.heap.size w
 refine E.cs (E.cl (E.ga rfl rfl rfl (E.gd (E.qc (E.cs (E.cl (E.gm rfl rfl rfl (E.gm rfl rfl rfl ?_))))))))
 refine E.GL.cmp rfl rfl rfl (fun _ h => (E.Runs.geq rfl rfl rfl h)) (fun h9 => ?_) (fun h9 => ?_)
 ·refine E.gm rfl rfl rfl (E.gm rfl rfl rfl (E.gm rfl rfl rfl ?_))
  refine E.GL.cmp rfl rfl rfl (fun _ h => (E.Runs.leq rfl rfl rfl h)) (fun h13 => ?_) (fun h13 => ?_)
  ·refine E.gt rfl rfl rfl rfl (E.ga rfl rfl rfl (E.gd (E.qc (E.CG.ret ?_))))
   exact E.QG.result rfl rfl ⟨by rw [h.mpr ⟨by omega, by omega⟩], L⟩
  ·refine E.gt rfl rfl rfl rfl (E.ga rfl rfl rfl (E.gd (E.qc (E.CG.ret ?_))))
   exact E.QG.result rfl rfl ⟨by rw [bool_no h (by omega)], L⟩
 ·refine E.gm rfl rfl rfl (E.gk rfl (E.gk rfl (E.gk rfl (E.gr rfl (E.Runs.pick_f rfl rfl rfl) ?_))))
  refine E.ga rfl rfl rfl (E.gd (E.qc (E.CG.ret ?_)))
  exact E.QG.result rfl rfl ⟨by rw [bool_no h (by omega)], L⟩

set_option maxRecDepth 100000 in
set_option maxHeartbeats 8000000 in

theorem within_t (n lo hi : Int) (b : Bool) (h : b = true ↔ inR n lo hi) (w : World) :
  Calls Try.prog 30 #[.int .i64 n, .int .i64 lo, .int .i64 hi] w fun e w' => e = .returned (.bool b) ∧ Below w.heap.size w w' := by
 unfold inR at h
 refine E.enter (N := 15) Try.func30 rfl Try.ntmps30 (args := [.int .i64 n, .int .i64 lo, .int .i64 hi]) (by simp) ?_
 have L := Below.refl w.heap.size w
 refine E.cs (E.cl (E.ga rfl rfl rfl (E.gd (E.qc (E.cs (E.cl (E.gm rfl rfl rfl (E.gm rfl rfl rfl ?_))))))))
 refine E.GL.cmp rfl rfl rfl (fun _ h => (E.Runs.leq rfl rfl rfl h)) (fun h9 => ?_) (fun h9 => ?_)
 ·refine E.gm rfl rfl rfl (E.gm rfl rfl rfl (E.gm rfl rfl rfl ?_))
  refine E.GL.cmp rfl rfl rfl (fun _ h => (E.Runs.leq rfl rfl rfl h)) (fun h13 => ?_) (fun h13 => ?_)
  ·refine E.gt rfl rfl rfl rfl (E.ga rfl rfl rfl (E.gd (E.qc (E.CG.ret ?_))))
   exact E.QG.result rfl rfl ⟨by rw [h.mpr ⟨by omega, by omega⟩], L⟩
  ·refine E.gt rfl rfl rfl rfl (E.ga rfl rfl rfl (E.gd (E.qc (E.CG.ret ?_))))
   exact E.QG.result rfl rfl ⟨by rw [bool_no h (by omega)], L⟩
 ·refine E.gm rfl rfl rfl (E.gk rfl (E.gk rfl (E.gk rfl (E.gr rfl (E.Runs.pick_f rfl rfl rfl) ?_))))
  refine E.ga rfl rfl rfl (E.gd (E.qc (E.CG.ret ?_)))
  exact E.QG.result rfl rfl ⟨by rw [bool_no h (by omega)], L⟩

set_option maxRecDepth 100000 in
set_option maxHeartbeats 8000000 in

theorem take_s (n : Int) (b : Bool) (h : b = true ↔ inR n 0 10000000) (w : World) :
  Calls Try.prog 63 #[.int .i64 n] w fun e w' => e = .returned (.bool b) ∧ Below w.heap.size w w' := by
 refine E.enter (N := 5) Try.func63 rfl Try.ntmps63 (args := [.int .i64 n]) (by simp) ?_
 have L := Below.refl w.heap.size w
 refine E.cs (E.cl (E.ga rfl rfl rfl (E.gd (E.qc (E.cs (E.cl (E.gm rfl rfl rfl ?_)))))))
 refine E.GL.st rfl rfl rfl (E.ST.call rfl ent23 (E.evc rfl (E.evc rfl (E.evc rfl E.evn))) ((within_s n 0 10000000 b h _).mono ?_))
 rintro e w4 ⟨rfl, l4⟩
 refine ⟨_, rfl, ?_⟩
 replace L := below_step L l4
 refine E.ga rfl rfl rfl (E.gd (E.qc (E.CG.ret ?_)))
 exact E.QG.result rfl rfl ⟨rfl, L⟩

set_option maxRecDepth 100000 in
set_option maxHeartbeats 8000000 in

theorem mille_s (n : Int) (b : Bool) (h : b = true ↔ inR n 0 1000) (w : World) :
  Calls Try.prog 64 #[.int .i64 n] w fun e w' => e = .returned (.bool b) ∧ Below w.heap.size w w' := by
 refine E.enter (N := 5) Try.func64 rfl Try.ntmps64 (args := [.int .i64 n]) (by simp) ?_
 have L := Below.refl w.heap.size w
 refine E.cs (E.cl (E.ga rfl rfl rfl (E.gd (E.qc (E.cs (E.cl (E.gm rfl rfl rfl ?_)))))))
 refine E.GL.st rfl rfl rfl (E.ST.call rfl ent23 (E.evc rfl (E.evc rfl (E.evc rfl E.evn))) ((within_s n 0 1000 b h _).mono ?_))
 rintro e w4 ⟨rfl, l4⟩
 refine ⟨_, rfl, ?_⟩
 replace L := below_step L l4
 refine E.ga rfl rfl rfl (E.gd (E.qc (E.CG.ret ?_)))
 exact E.QG.result rfl rfl ⟨rfl, L⟩

set_option maxRecDepth 100000 in
set_option maxHeartbeats 8000000 in

theorem index70 (l : List Int) (A : Option Addr) (c : Nat) (f : Nat) (w : World) (hr : Kd.C kI w A l.length l) (hn : l.length ≤ 1000000) (hent : ∀ args W, (callFunc f args).run Try.prog W = .ok (.enter f args) W)
  (hcl : ∀ x ∈ l, ∀ W, Calls Try.prog f #[.int .i64 x] W fun e w' => e = .returned (.bool false) ∧ Below W.heap.size W w') :
  Calls Try.prog 70 #[.slice A l.length c, .func (.func f) #[] #[]] w fun e w' => e = .returned (.int .i64 (-1)) ∧ Below w.heap.size w w' := by
 have hu3 := Try.underlying3
 have hu22 := Try.underlying22
 obtain ⟨z3, o3⟩ := info_some info3s (by decide)
 refine E.enter (N := 19) Try.func70 rfl Try.ntmps70 (args := [.slice A l.length c, .func (.func f) #[] #[]]) (by simp) ?_
 have L := Below.refl w.heap.size w
 refine E.cs (E.cl (E.ga rfl rfl rfl (E.gd (E.qc (E.cs (E.cs (E.cl (E.gm rfl rfl rfl (E.gr rfl (E.Runs.len rfl rfl hu22) ?_)))))))))
 refine E.gm rfl rfl rfl (E.gd (E.qc (E.CG.block ?_)))
 have s2_L := L
 refine E.CG.loop (fun (i : Nat) => [(0, .slice A l.length c), (1, .func (.func f) #[] #[]), (7, .int .i64 l.length), (8, .int .i64 i)]) (fun i w' => i ≤ l.length ∧ Below w.heap.size w w') (fun i => l.length - i) 0 (E.subc rfl (E.subc rfl (E.subc rfl (E.subc rfl E.subn)))) ⟨Nat.zero_le _, L⟩ ?_
 rintro i w2 ⟨hi_, L⟩
 refine E.cs (E.cl ?_)
 refine E.GL.cmp rfl rfl rfl (fun _ h => (E.Runs.lss rfl rfl rfl h)) (fun h9 => ?_) (fun h9 => ?_)
 ·obtain ⟨x, hx⟩ := get_ex (show i < l.length by omega)
  obtain ⟨ad, eA, X⟩ := int_at hr hx
  refine E.gd (E.qc (E.cs (E.CG.cond_t rfl (E.CG.skip (E.qc (E.cs (E.CG.block (E.cs (E.cl ?_)))))))))
  refine E.gm rfl rfl rfl (E.ga rfl rfl rfl (E.gd (E.qc (E.cs (E.cl (E.gm rfl rfl rfl (E.gm rfl rfl rfl (E.gm rfl rfl rfl (E.gr rfl (E.Runs.indexAddrA (i := i) rfl rfl rfl hu22 z3 o3 (by omega) eA rfl) ?_)))))))))
  refine E.gr rfl (E.Runs.load rfl rfl hu3 (pw_cell_below L X)) ?_
  refine E.GL.st rfl rfl rfl (E.ST.callV (cap := []) rfl hent rfl (E.evc rfl E.evn) ((hcl x (mem_of hx) _).mono ?_))
  rintro e w16 ⟨rfl, l16⟩
  refine ⟨_, rfl, ?_⟩
  replace L := below_step L l16
  refine E.gd (E.qc (E.CG.cond_f rfl (E.CG.skip (E.QG.block_normal (E.qc (E.cl (E.gr rfl (E.Runs.add rfl rfl rfl (IntWalk.i64_in _ (by omega))) ?_)))))))
  refine E.gm rfl rfl rfl (E.gd ?_)
  exact E.QG.round (i + 1) (E.subc rfl (E.subc rfl (E.subc rfl (E.subc rfl E.subn)))) ⟨by omega, L⟩ (by omega)
 ·refine E.gd (E.qc (E.cs (E.CG.cond_f rfl (E.CG.exit (E.QG.pass_exit (E.QG.pass_exit (E.QG.block_here (E.qc (E.cs ?_)))))))))
  refine E.cl (E.ga rfl rfl rfl (E.gd (E.qc (E.CG.ret ?_))))
  exact E.QG.result rfl rfl ⟨rfl, L⟩

set_option maxRecDepth 100000 in
set_option maxHeartbeats 8000000 in

theorem contains56 (l : List Int) (A : Option Addr) (c : Nat) (f : Nat) (w : World) (hr : Kd.C kI w A l.length l) (hn : l.length ≤ 1000000) (hent : ∀ args W, (callFunc f args).run Try.prog W = .ok (.enter f args) W)
  (hcl : ∀ x ∈ l, ∀ W, Calls Try.prog f #[.int .i64 x] W fun e w' => e = .returned (.bool false) ∧ Below W.heap.size W w') :
  Calls Try.prog 56 #[.slice A l.length c, .func (.func f) #[] #[]] w fun e w' => e = .returned (.bool false) ∧ Below w.heap.size w w' := by
 have hu3 := Try.underlying3
 have hu22 := Try.underlying22
 refine E.enter (N := 9) Try.func56 rfl Try.ntmps56 (args := [.slice A l.length c, .func (.func f) #[] #[]]) (by simp) ?_
 have L := Below.refl w.heap.size w
 refine E.cs (E.cl (E.ga rfl rfl rfl (E.gd (E.qc (E.cs (E.cl (E.gm rfl rfl rfl (E.gm rfl rfl rfl ?_))))))))
 refine E.GL.st rfl rfl rfl (E.ST.call rfl ent70 (E.evc rfl (E.evc rfl E.evn)) ((index70 l A c f _ (Kd.C_below hr L) hn hent hcl).mono ?_))
 rintro e w7 ⟨rfl, l7⟩
 refine ⟨_, rfl, ?_⟩
 replace L := below_step L l7
 refine E.gr rfl (E.Runs.geq rfl rfl rfl (decide_eq_false (by decide))) ?_
 refine E.ga rfl rfl rfl (E.gd (E.qc (E.CG.ret ?_)))
 exact E.QG.result rfl rfl ⟨rfl, L⟩

set_option maxRecDepth 100000 in
set_option maxHeartbeats 8000000 in

theorem clo65 (x : Int) (h : inR x 0 1000) (w : World) :
  Calls Try.prog 65 #[.int .i64 x] w fun e w' => e = .returned (.bool false) ∧ Below w.heap.size w w' := by
 refine E.enter (N := 6) Try.func65 rfl Try.ntmps65 (args := [.int .i64 x]) (by simp) ?_
 have L := Below.refl w.heap.size w
 refine E.cs (E.cl (E.ga rfl rfl rfl (E.gd (E.qc (E.cs (E.cl (E.gm rfl rfl rfl ?_)))))))
 refine E.GL.st rfl rfl rfl (E.ST.call rfl ent64 (E.evc rfl E.evn) ((mille_s x true (iff_of_true rfl h) _).mono ?_))
 rintro e w4 ⟨rfl, l4⟩
 refine ⟨_, rfl, ?_⟩
 replace L := below_step L l4
 refine E.gr rfl (E.Runs.not rfl rfl) ?_
 refine E.ga rfl rfl rfl (E.gd (E.qc (E.CG.ret ?_)))
 exact E.QG.result rfl rfl ⟨rfl, L⟩

set_option maxRecDepth 100000 in
set_option maxHeartbeats 8000000 in

theorem isContract_s (x : S36) (a3 a4 : Option Addr) (k3 k4 : Nat) (w : World) (hM : CM w x a3 k3 a4 k4) (ok : COk x) :
  Calls Try.prog 47 #[.agg #[.int .i64 x.f0, .int .i64 x.f1, .int .i64 x.f2, .slice a3 x.f3.length k3, .slice a4 x.f4.length k4, .int .i64 x.f5, .int .i64 x.f6, .int .i64 x.f7, .int .i64 x.f8]] w fun e w' => e = .returned (.bool true) ∧ Below w.heap.size w w' := by
 have hu3 := Try.underlying3
 have hu22 := Try.underlying22
 have hu34 := Try.underlying34
 have hu36 := Try.underlying36
 have hu86 := Try.underlying86
 obtain ⟨z3, o3⟩ := info_some info3s (by decide)
 obtain ⟨z22, o22⟩ := info_some info22s (by decide)
 obtain ⟨z34, o34⟩ := info_some info34s (by decide)
 obtain ⟨z36, o36⟩ := info_some info36s (by decide)
 obtain ⟨z86, o86⟩ := info_some info86s (by decide)
 obtain ⟨hn1, hn2, hn3, hn4, hn5, hn6, hn7, hn8, hn9, hn10⟩ := ok.n
 refine E.enter (N := 102) Try.func47 rfl Try.ntmps47 (args := [.agg #[.int .i64 x.f0, .int .i64 x.f1, .int .i64 x.f2, .slice a3 x.f3.length k3, .slice a4 x.f4.length k4, .int .i64 x.f5, .int .i64 x.f6, .int .i64 x.f7, .int .i64 x.f8]]) (by simp) ?_
 have L := Below.refl w.heap.size w
 refine E.cs (E.cl ?_)
 refine E.GL.st rfl rfl rfl (E.ST.box rfl rfl fun g1 w1 e1 b1 l1 => ?_)
 have h1_L : w.heap.size ≤ g1 := by rw [e1]; exact L.size
 replace L := below_step L l1
 refine E.ga rfl rfl rfl (E.gd (E.qc (E.cs (E.cs (E.cl (E.gr rfl (E.Runs.fieldAddr rfl rfl hu36 rfl (by assumption) rfl) ?_))))))
 refine E.gr rfl (E.Runs.load1 rfl rfl hu34 rfl (by first | assumption | exact E.blkc (by assumption) rfl | exact pw_cell_below L (by assumption))) ?_
 refine E.gr rfl (E.Runs.len rfl rfl hu34) ?_
 refine E.gm rfl rfl rfl (E.gd (E.qc (E.CG.block ?_)))
 have s2_b1 := b1
 have s2_L := L
 refine E.CG.loop (fun (i : Nat) => [(1, .pointer (some ⟨g1, 0, none⟩)), (8, .slice a4 x.f4.length k4), (9, .int .i64 x.f4.length), (10, .int .i64 i)]) (fun i w' => i ≤ x.f4.length ∧ w'.heap[g1]? = some (.cells #[.int .i64 x.f0, .int .i64 x.f1, .int .i64 x.f2, .slice a3 x.f3.length k3, .slice a4 x.f4.length k4, .int .i64 x.f5, .int .i64 x.f6, .int .i64 x.f7, .int .i64 x.f8] 36 (0, 0)) ∧ Below w.heap.size w w') (fun i => x.f4.length - i) 0 (E.subc rfl (E.subc rfl (E.subc rfl (E.subc rfl E.subn)))) ⟨Nat.zero_le _, b1, L⟩ ?_
 rintro i w2 ⟨hi_, b1, L⟩
 refine E.cs (E.cl ?_)
 refine E.GL.cmp rfl rfl rfl (fun _ h => (E.Runs.lss rfl rfl rfl h)) (fun h11 => ?_) (fun h11 => ?_)
 ·obtain ⟨t, ht_⟩ := get_ex (show i < x.f4.length by omega)
  have ht := ok.ti i t ht_
  obtain ⟨ad, eA, X⟩ := tier_at hM.t ht_
  refine E.gd (E.qc (E.cs (E.CG.cond_t rfl (E.CG.skip (E.qc (E.cs (E.CG.block (E.cs (E.cl ?_)))))))))
  refine E.gm rfl rfl rfl (E.gr rfl (E.Runs.indexAddrA (i := i) rfl rfl rfl hu34 z86 o86 (by omega) eA rfl) ?_)
  refine E.gr rfl (E.Runs.loads (cs := [.int .i64 t.f0, .int .i64 t.f1]) rfl rfl hu86 rfl info86s (fun j v hv => pw_cell_below L (X j v hv))) ?_
  refine E.GL.st rfl rfl rfl (E.ST.alloc rfl info86z fun g4 w4 e4 b4 l4 => ?_)
  have h4_L : w.heap.size ≤ g4 := by rw [e4]; exact L.size
  have n4_b1 : g1 ≠ g4 := by have := blk_lt b1; omega
  replace b1 := blk_below b1 l4
  replace L := below_step L l4
  refine E.ga rfl rfl rfl (E.GL.store_whole rfl rfl rfl rfl rfl b4 rfl info86s (tier_one _) fun wS3_5 c4 lS3_5 => ?_)
  replace b1 := blk_grown b1 lS3_5 (E.nes (by first | assumption | exact Ne.symm (by assumption)))
  replace L := E.below_own L h4_L lS3_5
  replace b4 := c4
  clear c4
  refine E.gd (E.qc (E.cs (E.CG.heldH (none) (by kernel_rfl) fun v4 lD hh => ?_)))
  replace b1 := blk_below b1 lD
  replace b4 := blk_below b4 lD
  replace L := below_step L lD
  clear lD
  have s_b1 := b1
  have s_b4 := b4
  have s_L := L
  refine E.GH.take (i := 0) rfl (by kernel_rfl) (by kernel_rfl) (by kernel_rfl) (by intro c a d v w h; first | (cases d <;> exact h) | exact nomatch (show _ ∧ _ from h).1) rfl rfl rfl (fun w' hS => (E.Runs.fieldAddr rfl rfl hu86 rfl (by assumption) rfl)) ?_
  refine E.GH.take (i := 1) rfl (by kernel_rfl) (by kernel_rfl) (by kernel_rfl) (by intro c a d v w h; first | (cases d <;> exact h) | exact nomatch (show _ ∧ _ from h).1) rfl rfl rfl (fun w' hS => (E.Runs.load rfl rfl hu3 (by first | exact E.keeps hS (E.blkc (by assumption) rfl) (by first | exact E.nen | exact E.nes (by assumption) | exact E.nes (Ne.symm (by assumption))) | exact pw_cell_below (below_step s_L (E.belowG hS)) (by assumption)))) ?_
  refine E.GH.one (i := 2) (by kernel_rfl) rfl ?_
  refine E.GO.st rfl rfl rfl (E.ST.call rfl ent63 (E.evc rfl E.evn) ((take_s t.f0 true (iff_of_true rfl ht.1) _).mono ?_))
  rintro e w17 ⟨rfl, l17⟩
  refine ⟨_, rfl, hh.trans (E.gbB l17), ?_⟩
  replace hh := hh.trans (E.gbB l17)
  replace b1 := blk_below b1 l17
  replace b4 := blk_below b4 l17
  replace L := below_step L l17
  refine E.GH.take (i := 3) rfl (by kernel_rfl) (by kernel_rfl) (by kernel_rfl) (by intro c a d v w h; first | (cases d <;> exact h) | exact nomatch (show _ ∧ _ from h).1) rfl rfl rfl (fun w' hS => (E.Runs.not rfl rfl)) ?_
  refine E.GH.take (i := 4) rfl (by kernel_rfl) (by kernel_rfl) (by kernel_rfl) (by intro c a d v w h; first | (cases d <;> exact h) | exact nomatch (show _ ∧ _ from h).1) rfl rfl rfl (fun w' hS => (E.Runs.move rfl rfl)) ?_
  refine E.GH.take (i := 5) rfl (by kernel_rfl) (by kernel_rfl) (by kernel_rfl) (by intro c a d v w h; first | (cases d <;> exact h) | exact nomatch (show _ ∧ _ from h).1) rfl rfl rfl (fun w' hS => (E.Runs.fieldAddr rfl rfl hu86 rfl (by assumption) rfl)) ?_
  refine E.GH.take (i := 6) rfl (by kernel_rfl) (by kernel_rfl) (by kernel_rfl) (by intro c a d v w h; first | (cases d <;> exact h) | exact nomatch (show _ ∧ _ from h).1) rfl rfl rfl (fun w' hS => (E.Runs.load rfl rfl hu3 (by first | exact E.keeps hS (E.blkc (by assumption) rfl) (by first | exact E.nen | exact E.nes (by assumption) | exact E.nes (Ne.symm (by assumption))) | exact pw_cell_below (below_step s_L (E.belowG hS)) (by assumption)))) ?_
  refine E.GH.one (i := 7) (by kernel_rfl) rfl ?_
  refine E.GO.st rfl rfl rfl (E.ST.call rfl ent64 (E.evc rfl E.evn) ((mille_s t.f1 true (iff_of_true rfl ht.2.1) _).mono ?_))
  rintro e w22 ⟨rfl, l22⟩
  refine ⟨_, rfl, hh.trans (E.gbB l22), ?_⟩
  replace hh := hh.trans (E.gbB l22)
  replace b1 := blk_below b1 l22
  replace b4 := blk_below b4 l22
  replace L := below_step L l22
  refine E.GH.take (i := 8) rfl (by kernel_rfl) (by kernel_rfl) (by kernel_rfl) (by intro c a d v w h; first | (cases d <;> exact h) | exact nomatch (show _ ∧ _ from h).1) rfl rfl rfl (fun w' hS => (E.Runs.not rfl rfl)) ?_
  refine E.GH.take (i := 9) rfl (by kernel_rfl) (by kernel_rfl) (by kernel_rfl) (by intro c a d v w h; first | (cases d <;> exact h) | exact nomatch (show _ ∧ _ from h).1) rfl rfl rfl (fun w' hS => (E.Runs.pick_f rfl rfl rfl)) ?_
  refine E.GH.take (i := 10) rfl (by kernel_rfl) (by kernel_rfl) (by kernel_rfl) (by intro c a d v w h; first | (cases d <;> exact h) | exact nomatch (show _ ∧ _ from h).1) rfl rfl rfl (fun w' hS => (E.Runs.move rfl rfl)) ?_
  refine E.GH.take (i := 11) rfl (by kernel_rfl) (by kernel_rfl) (by kernel_rfl) (by intro c a d v w h; first | (cases d <;> exact h) | exact nomatch (show _ ∧ _ from h).1) rfl rfl rfl (fun w' hS => (E.Runs.move rfl rfl)) ?_
  refine E.GH.cmp (i := 12) rfl (by kernel_rfl) (by kernel_rfl) (by kernel_rfl) (by intro c a d v w h; first | (cases d <;> exact h) | exact nomatch (show _ ∧ _ from h).1) rfl rfl rfl (fun _ h w' hS => (E.Runs.gtr rfl rfl rfl h)) (fun h27 => ?_) (fun h27 => ?_)
  ·obtain ⟨s, hs⟩ := get_ex (show i - 1 < x.f4.length by omega)
   obtain ⟨ad2, eA2, X2⟩ := tier_at hM.t hs
   refine E.GH.take (i := 13) rfl (by kernel_rfl) (by kernel_rfl) (by kernel_rfl) (by intro c a d v w h; first | (cases d <;> exact h) | exact nomatch (show _ ∧ _ from h).1) rfl rfl rfl (fun w' hS => (E.Runs.move rfl rfl)) ?_
   refine E.GH.take (i := 14) rfl (by kernel_rfl) (by kernel_rfl) (by kernel_rfl) (by intro c a d v w h; first | (cases d <;> exact h) | exact nomatch (show _ ∧ _ from h).1) rfl rfl rfl (fun w' hS => (E.Runs.fieldAddr rfl rfl hu86 rfl (by assumption) rfl)) ?_
   refine E.GH.take (i := 15) rfl (by kernel_rfl) (by kernel_rfl) (by kernel_rfl) (by intro c a d v w h; first | (cases d <;> exact h) | exact nomatch (show _ ∧ _ from h).1) rfl rfl rfl (fun w' hS => (E.Runs.load rfl rfl hu3 (by first | exact E.keeps hS (E.blkc (by assumption) rfl) (by first | exact E.nen | exact E.nes (by assumption) | exact E.nes (Ne.symm (by assumption))) | exact pw_cell_below (below_step s_L (E.belowG hS)) (by assumption)))) ?_
   refine E.GH.take (i := 16) rfl (by kernel_rfl) (by kernel_rfl) (by kernel_rfl) (by intro c a d v w h; first | (cases d <;> exact h) | exact nomatch (show _ ∧ _ from h).1) rfl rfl rfl (fun w' hS => (E.Runs.fieldAddr rfl rfl hu36 rfl (by assumption) rfl)) ?_
   refine E.GH.take (i := 17) rfl (by kernel_rfl) (by kernel_rfl) (by kernel_rfl) (by intro c a d v w h; first | (cases d <;> exact h) | exact nomatch (show _ ∧ _ from h).1) rfl rfl rfl (fun w' hS => (E.Runs.load1 rfl rfl hu34 rfl (by first | exact E.keeps hS (E.blkc (by assumption) rfl) (by first | exact E.nen | exact E.nes (by assumption) | exact E.nes (Ne.symm (by assumption))) | exact pw_cell_below (below_step s_L (E.belowG hS)) (by assumption)))) ?_
   refine E.GH.take (i := 18) rfl (by kernel_rfl) (by kernel_rfl) (by kernel_rfl) (by intro c a d v w h; first | (cases d <;> exact h) | exact nomatch (show _ ∧ _ from h).1) rfl rfl rfl (fun w' hS => (E.Runs.move rfl rfl)) ?_
   refine E.GH.take (i := 19) rfl (by kernel_rfl) (by kernel_rfl) (by kernel_rfl) (by intro c a d v w h; first | (cases d <;> exact h) | exact nomatch (show _ ∧ _ from h).1) rfl rfl rfl (fun w' hS => (E.Runs.sub rfl rfl rfl ((IntWalk.i64_in _ (by omega)).trans (show _ = ((i - 1 : Nat) : Int) from by omega)))) ?_
   refine E.GH.take (i := 20) rfl (by kernel_rfl) (by kernel_rfl) (by kernel_rfl) (by intro c a d v w h; first | (cases d <;> exact h) | exact nomatch (show _ ∧ _ from h).1) rfl rfl rfl (fun w' hS => (E.Runs.indexAddrA (i := i - 1) rfl rfl rfl hu34 z86 o86 (by omega) eA2 rfl)) ?_
   refine E.GH.take (i := 21) rfl (by kernel_rfl) (by kernel_rfl) (by kernel_rfl) (by intro c a d v w h; first | (cases d <;> exact h) | exact nomatch (show _ ∧ _ from h).1) rfl rfl rfl (fun w' hS => (E.Runs.fieldAddr rfl rfl hu86 rfl (by assumption) rfl)) ?_
   refine E.GH.take (i := 22) rfl (by kernel_rfl) (by kernel_rfl) (by kernel_rfl) (by intro c a d v w h; first | (cases d <;> exact h) | exact nomatch (show _ ∧ _ from h).1) rfl rfl rfl (fun w' hS => (E.Runs.load rfl rfl hu3 (pw_cell_below (below_step s_L (E.belowG hS)) (X2 0 _ rfl)))) ?_
   refine E.GH.take (i := 23) rfl (by kernel_rfl) (by kernel_rfl) (by kernel_rfl) (by intro c a d v w h; first | (cases d <;> exact h) | exact nomatch (show _ ∧ _ from h).1) rfl rfl rfl (fun w' hS => (E.Runs.leq rfl rfl rfl (decide_eq_false (by have := ht.2.2 (i - 1) s (by omega) hs; omega)))) ?_
   refine E.GH.take (i := 24) rfl (by kernel_rfl) (by kernel_rfl) (by kernel_rfl) (by intro c a d v w h; first | (cases d <;> exact h) | exact nomatch (show _ ∧ _ from h).1) rfl rfl rfl (fun w' hS => (E.Runs.pick_t rfl rfl rfl)) ?_
   refine E.GH.take (i := 25) rfl (by kernel_rfl) (by kernel_rfl) (by kernel_rfl) (by intro c a d v w h; first | (cases d <;> exact h) | exact nomatch (show _ ∧ _ from h).1) rfl rfl rfl (fun w' hS => (E.Runs.pick_f rfl rfl rfl)) ?_
   refine E.GH.done (by kernel_rfl) ?_
   refine E.qc (E.CG.cond_f rfl (E.CG.skip (E.QG.block_normal (E.qc (E.cl (E.gr rfl (E.Runs.add rfl rfl rfl (IntWalk.i64_in _ (by omega))) ?_))))))
   refine E.gm rfl rfl rfl (E.gd ?_)
   exact E.QG.round (i + 1) (E.subc rfl (E.subc rfl (E.subc rfl (E.subc rfl E.subn)))) ⟨by omega, b1, L⟩ (by omega)
  ·refine E.GH.take (i := 13) rfl (by kernel_rfl) (by kernel_rfl) (by kernel_rfl) (by intro c a d v w h; first | (cases d <;> exact h) | exact nomatch (show _ ∧ _ from h).1) rfl rfl rfl (fun w' hS => (E.Runs.move rfl rfl)) ?_
   refine E.GH.pass (i := 14) rfl (by kernel_rfl) (by kernel_rfl) (by kernel_rfl) (by intro c a d v w h; first | (cases d <;> exact h) | exact nomatch (show _ ∧ _ from h).1) rfl rfl rfl ?_
   refine E.GH.pass (i := 15) rfl (by kernel_rfl) (by kernel_rfl) (by kernel_rfl) (by intro c a d v w h; first | (cases d <;> exact h) | exact nomatch (show _ ∧ _ from h).1) rfl rfl rfl ?_
   refine E.GH.pass (i := 16) rfl (by kernel_rfl) (by kernel_rfl) (by kernel_rfl) (by intro c a d v w h; first | (cases d <;> exact h) | exact nomatch (show _ ∧ _ from h).1) rfl rfl rfl ?_
   refine E.GH.pass (i := 17) rfl (by kernel_rfl) (by kernel_rfl) (by kernel_rfl) (by intro c a d v w h; first | (cases d <;> exact h) | exact nomatch (show _ ∧ _ from h).1) rfl rfl rfl ?_
   refine E.GH.pass (i := 18) rfl (by kernel_rfl) (by kernel_rfl) (by kernel_rfl) (by intro c a d v w h; first | (cases d <;> exact h) | exact nomatch (show _ ∧ _ from h).1) rfl rfl rfl ?_
   refine E.GH.pass (i := 19) rfl (by kernel_rfl) (by kernel_rfl) (by kernel_rfl) (by intro c a d v w h; first | (cases d <;> exact h) | exact nomatch (show _ ∧ _ from h).1) rfl rfl rfl ?_
   refine E.GH.pass (i := 20) rfl (by kernel_rfl) (by kernel_rfl) (by kernel_rfl) (by intro c a d v w h; first | (cases d <;> exact h) | exact nomatch (show _ ∧ _ from h).1) rfl rfl rfl ?_
   refine E.GH.pass (i := 21) rfl (by kernel_rfl) (by kernel_rfl) (by kernel_rfl) (by intro c a d v w h; first | (cases d <;> exact h) | exact nomatch (show _ ∧ _ from h).1) rfl rfl rfl ?_
   refine E.GH.pass (i := 22) rfl (by kernel_rfl) (by kernel_rfl) (by kernel_rfl) (by intro c a d v w h; first | (cases d <;> exact h) | exact nomatch (show _ ∧ _ from h).1) rfl rfl rfl ?_
   refine E.GH.pass (i := 23) rfl (by kernel_rfl) (by kernel_rfl) (by kernel_rfl) (by intro c a d v w h; first | (cases d <;> exact h) | exact nomatch (show _ ∧ _ from h).1) rfl rfl rfl ?_
   refine E.GH.take (i := 24) rfl (by kernel_rfl) (by kernel_rfl) (by kernel_rfl) (by intro c a d v w h; first | (cases d <;> exact h) | exact nomatch (show _ ∧ _ from h).1) rfl rfl rfl (fun w' hS => (E.Runs.pick_f rfl rfl rfl)) ?_
   refine E.GH.take (i := 25) rfl (by kernel_rfl) (by kernel_rfl) (by kernel_rfl) (by intro c a d v w h; first | (cases d <;> exact h) | exact nomatch (show _ ∧ _ from h).1) rfl rfl rfl (fun w' hS => (E.Runs.pick_f rfl rfl rfl)) ?_
   refine E.GH.done (by kernel_rfl) ?_
   refine E.qc (E.CG.cond_f rfl (E.CG.skip (E.QG.block_normal (E.qc (E.cl (E.gr rfl (E.Runs.add rfl rfl rfl (IntWalk.i64_in _ (by omega))) ?_))))))
   refine E.gm rfl rfl rfl (E.gd ?_)
   exact E.QG.round (i + 1) (E.subc rfl (E.subc rfl (E.subc rfl (E.subc rfl E.subn)))) ⟨by omega, b1, L⟩ (by omega)
 ·refine E.gd (E.qc (E.cs (E.CG.cond_f rfl (E.CG.exit (E.QG.pass_exit (E.QG.pass_exit (E.QG.block_here (E.qc (E.cs ?_)))))))))
  refine E.cl (E.gr rfl (E.Runs.fieldAddr rfl rfl hu36 rfl (by assumption) rfl) ?_)
  refine E.gr rfl (E.Runs.load1 rfl rfl hu22 rfl (by first | assumption | exact E.blkc (by assumption) rfl | exact pw_cell_below L (by assumption))) ?_
  refine E.gr rfl (E.Runs.len rfl rfl hu22) ?_
  refine E.GL.st rfl rfl rfl (E.ST.call rfl ent23 (E.evc rfl (E.evc rfl (E.evc rfl E.evn))) ((within_s (x.f3.length : Int) 1 6 true (iff_of_true rfl hn5) _).mono ?_))
  rintro e w45 ⟨rfl, l45⟩
  refine ⟨_, rfl, ?_⟩
  replace b1 := blk_below b1 l45
  replace L := below_step L l45
  refine E.gm rfl rfl rfl (E.gr rfl (E.Runs.fieldAddr rfl rfl hu36 rfl (by assumption) rfl) ?_)
  refine E.gr rfl (E.Runs.load1 rfl rfl hu22 rfl (by first | assumption | exact E.blkc (by assumption) rfl | exact pw_cell_below L (by assumption))) ?_
  refine E.GL.st rfl rfl rfl (E.ST.call rfl ent56 (E.evc rfl (E.evc rfl E.evn)) ((contains56 x.f3 a3 k3 65 _ (Kd.C_below hM.s L) (by omega) ent65 (fun y hy W => clo65 y (ok.st y hy) W)).mono ?_))
  rintro e w49 ⟨rfl, l49⟩
  refine ⟨_, rfl, ?_⟩
  replace b1 := blk_below b1 l49
  replace L := below_step L l49
  refine E.gr rfl (E.Runs.not rfl rfl) ?_
  refine E.gt rfl rfl rfl rfl (E.ga rfl rfl rfl (E.gd (E.qc (E.cs (E.cl (E.gr rfl (E.Runs.fieldAddr rfl rfl hu36 rfl (by assumption) rfl) ?_))))))
  refine E.gr rfl (E.Runs.load rfl rfl hu3 (by first | assumption | exact E.blkc (by assumption) rfl | exact pw_cell_below L (by assumption))) ?_
  refine E.gr rfl (E.Runs.fieldAddr rfl rfl hu36 rfl (by assumption) rfl) ?_
  refine E.gr rfl (E.Runs.load rfl rfl hu3 (by first | assumption | exact E.blkc (by assumption) rfl | exact pw_cell_below L (by assumption))) ?_
  refine E.gr rfl (E.Runs.leq rfl rfl rfl (decide_eq_true (by omega))) ?_
  refine E.gm rfl rfl rfl (E.gr rfl (E.Runs.fieldAddr rfl rfl hu36 rfl (by assumption) rfl) ?_)
  refine E.gr rfl (E.Runs.load rfl rfl hu3 (by first | assumption | exact E.blkc (by assumption) rfl | exact pw_cell_below L (by assumption))) ?_
  refine E.GL.st rfl rfl rfl (E.ST.call rfl ent23 (E.evc rfl (E.evc rfl (E.evc rfl E.evn))) ((within_s x.f1 0 99 true (iff_of_true rfl ⟨hn2, by omega⟩) _).mono ?_))
  rintro e w60 ⟨rfl, l60⟩
  refine ⟨_, rfl, ?_⟩
  replace b1 := blk_below b1 l60
  replace L := below_step L l60
  refine E.gt rfl rfl rfl rfl (E.gm rfl rfl rfl (E.gr rfl (E.Runs.fieldAddr rfl rfl hu36 rfl (by assumption) rfl) ?_))
  refine E.gr rfl (E.Runs.load rfl rfl hu3 (by first | assumption | exact E.blkc (by assumption) rfl | exact pw_cell_below L (by assumption))) ?_
  refine E.GL.st rfl rfl rfl (E.ST.call rfl ent23 (E.evc rfl (E.evc rfl (E.evc rfl E.evn))) ((within_s x.f2 0 99 true (iff_of_true rfl ⟨by omega, hn4⟩) _).mono ?_))
  rintro e w65 ⟨rfl, l65⟩
  refine ⟨_, rfl, ?_⟩
  replace b1 := blk_below b1 l65
  replace L := below_step L l65
  refine E.gt rfl rfl rfl rfl (E.ga rfl rfl rfl (E.gd (E.qc (E.cs (E.cl (E.gm rfl rfl rfl (E.gm rfl rfl rfl (E.gm rfl rfl rfl (E.gt rfl rfl rfl rfl ?_)))))))))
  refine E.gm rfl rfl rfl (E.gr rfl (E.Runs.fieldAddr rfl rfl hu36 rfl (by assumption) rfl) ?_)
  refine E.gr rfl (E.Runs.load rfl rfl hu3 (by first | assumption | exact E.blkc (by assumption) rfl | exact pw_cell_below L (by assumption))) ?_
  refine E.GL.st rfl rfl rfl (E.ST.call rfl ent23 (E.evc rfl (E.evc rfl (E.evc rfl E.evn))) ((within_s x.f0 0 99 true (iff_of_true rfl hn1) _).mono ?_))
  rintro e w74 ⟨rfl, l74⟩
  refine ⟨_, rfl, ?_⟩
  replace b1 := blk_below b1 l74
  replace L := below_step L l74
  refine E.gt rfl rfl rfl rfl (E.gm rfl rfl rfl (E.gr rfl (E.Runs.fieldAddr rfl rfl hu36 rfl (by assumption) rfl) ?_))
  refine E.gr rfl (E.Runs.load1 rfl rfl hu34 rfl (by first | assumption | exact E.blkc (by assumption) rfl | exact pw_cell_below L (by assumption))) ?_
  refine E.gr rfl (E.Runs.len rfl rfl hu34) ?_
  refine E.gr rfl (E.Runs.leq rfl rfl rfl (decide_eq_true (by omega))) ?_
  refine E.gt rfl rfl rfl rfl (E.gm rfl rfl rfl (E.gr rfl (E.Runs.fieldAddr rfl rfl hu36 rfl (by assumption) rfl) ?_))
  refine E.gr rfl (E.Runs.load rfl rfl hu3 (by first | assumption | exact E.blkc (by assumption) rfl | exact pw_cell_below L (by assumption))) ?_
  refine E.GL.st rfl rfl rfl (E.ST.call rfl ent63 (E.evc rfl E.evn) ((take_s x.f5 true (iff_of_true rfl hn7) _).mono ?_))
  rintro e w85 ⟨rfl, l85⟩
  refine ⟨_, rfl, ?_⟩
  replace b1 := blk_below b1 l85
  replace L := below_step L l85
  refine E.gt rfl rfl rfl rfl (E.gm rfl rfl rfl (E.gr rfl (E.Runs.fieldAddr rfl rfl hu36 rfl (by assumption) rfl) ?_))
  refine E.gr rfl (E.Runs.load rfl rfl hu3 (by first | assumption | exact E.blkc (by assumption) rfl | exact pw_cell_below L (by assumption))) ?_
  refine E.GL.st rfl rfl rfl (E.ST.call rfl ent63 (E.evc rfl E.evn) ((take_s x.f7 true (iff_of_true rfl hn8) _).mono ?_))
  rintro e w90 ⟨rfl, l90⟩
  refine ⟨_, rfl, ?_⟩
  replace b1 := blk_below b1 l90
  replace L := below_step L l90
  refine E.gt rfl rfl rfl rfl (E.gm rfl rfl rfl (E.gr rfl (E.Runs.fieldAddr rfl rfl hu36 rfl (by assumption) rfl) ?_))
  refine E.gr rfl (E.Runs.load rfl rfl hu3 (by first | assumption | exact E.blkc (by assumption) rfl | exact pw_cell_below L (by assumption))) ?_
  refine E.GL.st rfl rfl rfl (E.ST.call rfl ent64 (E.evc rfl E.evn) ((mille_s x.f6 true (iff_of_true rfl hn9) _).mono ?_))
  rintro e w95 ⟨rfl, l95⟩
  refine ⟨_, rfl, ?_⟩
  replace b1 := blk_below b1 l95
  replace L := below_step L l95
  refine E.gt rfl rfl rfl rfl (E.gm rfl rfl rfl (E.gr rfl (E.Runs.fieldAddr rfl rfl hu36 rfl (by assumption) rfl) ?_))
  refine E.gr rfl (E.Runs.load rfl rfl hu3 (by first | assumption | exact E.blkc (by assumption) rfl | exact pw_cell_below L (by assumption))) ?_
  refine E.GL.st rfl rfl rfl (E.ST.call rfl ent23 (E.evc rfl (E.evc rfl (E.evc rfl E.evn))) ((within_s x.f8 0 100000000 true (iff_of_true rfl hn10) _).mono ?_))
  rintro e w100 ⟨rfl, l100⟩
  refine ⟨_, rfl, ?_⟩
  replace b1 := blk_below b1 l100
  replace L := below_step L l100
  refine E.gt rfl rfl rfl rfl (E.ga rfl rfl rfl (E.gd (E.qc (E.CG.ret ?_))))
  exact E.QG.result rfl rfl ⟨rfl, L⟩

end Go.Proofs.Ytkjefnlhhfpllaa.T
