/- Texts of this claim, put together: O1. -/
import Derived.Test.YtmnjlnkfihklgaaG3
import Derived.Test.YtmnjlnkfihklgaaRows
import Derived.ProofKit
import Derived.OpenShut
import Derived.ChangeOld
import Derived.SizedLaws
import Derived.Deep.Slices
namespace Go.Proofs.Ytmnjlnkfihklgaa.T
open Go.ChangeShapes Go.WideShapes Go.ChangeAt Go.Deep
open Go.RowKit Go.Proofs.YtmnjlnkfihklgaaW.PrintWords Go.Proofs.YtmnjlnkfihklgaaW.PrintMore
open Go.Proofs.Ytmnjlnkfihklgaa.P
set_option linter.unusedVariables false
set_option linter.unusedSimpArgs false

section
variable {X : Type} {enc : TypeId × Value → X} {w : World} {base : Nat} {spare : Nat → Bool} {held : Bool}
theorem fld {fs : Array Field} {n : Nat} {cs : List Value} {xs : List (DataW X × List MemPlace)} (hlen : xs.length = fs.size) (hg : ∀ (i : Nat) (f : Field), fs[i]? = some f → DataW.trod enc Try.prog w base spare held n f.type ((cs.drop f.offset).take (Try.prog.cellsOf f.type)) = xs[i]?) (i : Nat) (f : Field) (hf : fs[i]? = some f)
    (ty : TypeId) (off k : Nat) (h1 : f.type = ty) (h2 : f.offset = off) (h3 : Try.prog.cellsOf ty = k) :
    ∃ y, DataW.trod enc Try.prog w base spare held n ty ((cs.drop off).take k) = some y := by
  have hi : i < xs.length := by rw [hlen]; exact (Array.getElem?_eq_some_iff.1 hf).1
  subst h1 h2 h3
  exact ⟨_, (hg i f hf).trans (List.getElem?_eq_getElem hi)⟩

theorem cells3 : Try.prog.cellsOf 3 = 1 := by kernel_rfl

theorem trod3 {n : Nat} {cs : List Value} {x : DataW X × List MemPlace} (h : DataW.trod enc Try.prog w base spare held n 3 cs = some x) : ∃ (a : Int), cs = [.int .i64 a] := by
  obtain ⟨a, hc, _⟩ := DataW.trod_int Try.underlying3 h
  exact ⟨a, hc⟩

theorem cells25 : Try.prog.cellsOf 25 = 2 := by kernel_rfl

theorem cells22 : Try.prog.cellsOf 22 = 1 := by kernel_rfl

theorem trod22 {n : Nat} {cs : List Value} {x : DataW X × List MemPlace} (h : DataW.trod enc Try.prog w base spare held n 22 cs = some x) : ∃ (aA : Option Addr) (ac : Nat) (al : List Int), cs = [.slice aA al.length ac] ∧ al.length ≤ ac ∧ Kd.C (Kd.int .i64) w aA al.length al := by
  rcases open_slice Try.underlying22 h with ⟨rfl, _⟩ | ⟨a, len, cap, m, k, D, Pl, rfl, hb, hl, hm, hmm, hx, hi⟩
  · exact ⟨none, 0, [], rfl, Nat.le_refl _, rfl, by simp, fun h => absurd h (by simp)⟩
  · have hlm : len ≤ m := by rw [hmm]; split <;> omega
    have H : ∀ i, i < len → ∃ s : Int, w.cells? base (a.add (i * 1)) 1 = some [.int .i64 s] := by
      intro i hil
      obtain ⟨cs', hc, ht⟩ := hi i (by omega)
      obtain ⟨a, rfl⟩ := trod3 ht
      rw [cells3] at hc
      exact ⟨a, hc⟩
    obtain ⟨F, hF⟩ : ∃ F : Nat → Int, ∀ i, i < len → w.cells? base (a.add (i * 1)) 1 = some [.int .i64 (F i)] := by
      refine ⟨fun i => if h : i < len then (H i h).choose else 0, fun i h => ?_⟩
      simp only [dif_pos h]
      exact (H i h).choose_spec
    refine ⟨some a, cap, (List.range len).map F, by simp, by simpa using hl, ?_, ?_, ?_⟩
    · rfl
    · simp only [List.length_map, List.length_range]
      unfold maxLen at hm
      omega
    · intro _
      refine ⟨a, rfl, fun j p hj => ?_⟩
      have hjl : j < len := by
        have := (List.getElem?_eq_some_iff.1 hj).1
        simpa using this
      have hp : p = F j := by
        rw [List.getElem?_map, List.getElem?_range hjl] at hj
        simpa using hj.symm
      subst hp
      refine ⟨[.int .i64 (F j)], rfl, rfl, ?_⟩
      intro i u hu
      obtain ⟨_, hcl, hat⟩ := World.cells?_some (hF j hjl)
      have hil : i < 1 := (List.getElem?_eq_some_iff.1 hu).1
      have := hat i hil
      rw [Go.Deep.add_add] at this
      rw [show j * ((Kd.int .i64)).sz + i = j * 1 + i from rfl, this, hu]

theorem cells23 : Try.prog.cellsOf 23 = 1 := by kernel_rfl

theorem cells45 : Try.prog.cellsOf 45 = 4 := by kernel_rfl

theorem list_of4 {cs : List Value} (h : cs.length = 4) : ∃ v0 v1 v2 v3, cs = [v0, v1, v2, v3] := by
  match cs, h with
  | [v0, v1, v2, v3], _ => exact ⟨v0, v1, v2, v3, rfl⟩

theorem trod45 {n : Nat} {cs : List Value} {x : DataW X × List MemPlace} (h : DataW.trod enc Try.prog w base spare held n 45 cs = some x) : ∃ (a_0 : Int) (a_1 : Int) (a_2 : Int) (a_3 : Int), cs = [.int .i64 a_0, .int .i64 a_1, .int .i64 a_2, .int .i64 a_3] := by
  obtain ⟨xs, m, _, hx, hl, hlen, hg⟩ := DataW.trod_struct Try.underlying45 h
  rw [cells45] at hl
  obtain ⟨v0, v1, v2, v3, rfl⟩ := list_of4 hl
  obtain ⟨y0, h0⟩ := fld hlen hg 0 _ rfl 3 0 1 rfl rfl cells3
  obtain ⟨y1, h1⟩ := fld hlen hg 1 _ rfl 3 1 1 rfl rfl cells3
  obtain ⟨y2, h2⟩ := fld hlen hg 2 _ rfl 3 2 1 rfl rfl cells3
  obtain ⟨y3, h3⟩ := fld hlen hg 3 _ rfl 3 3 1 rfl rfl cells3
  obtain ⟨a_0, e0⟩ := trod3 h0
  obtain ⟨a_1, e1⟩ := trod3 h1
  obtain ⟨a_2, e2⟩ := trod3 h2
  obtain ⟨a_3, e3⟩ := trod3 h3
  simp only [List.drop_zero, List.take_succ_cons, List.take_zero, List.drop_succ_cons, List.cons.injEq, and_true] at e0 e1 e2 e3
  subst e0 e1 e2 e3
  exact ⟨a_0, a_1, a_2, a_3, rfl⟩

theorem trod23 {n : Nat} {cs : List Value} {x : DataW X × List MemPlace} (h : DataW.trod enc Try.prog w base spare held n 23 cs = some x) : ∃ (aA : Option Addr) (ac : Nat) (al : List S45), cs = [.slice aA al.length ac] ∧ al.length ≤ ac ∧ Kd.C k45 w aA al.length al := by
  rcases open_slice Try.underlying23 h with ⟨rfl, _⟩ | ⟨a, len, cap, m, k, D, Pl, rfl, hb, hl, hm, hmm, hx, hi⟩
  · exact ⟨none, 0, [], rfl, Nat.le_refl _, rfl, by simp, fun h => absurd h (by simp)⟩
  · have hlm : len ≤ m := by rw [hmm]; split <;> omega
    have H : ∀ i, i < len → ∃ s : S45, w.cells? base (a.add (i * 4)) 4 = some [.int .i64 s.f0, .int .i64 s.f1, .int .i64 s.f2, .int .i64 s.f3] := by
      intro i hil
      obtain ⟨cs', hc, ht⟩ := hi i (by omega)
      obtain ⟨a_0, a_1, a_2, a_3, rfl⟩ := trod45 ht
      rw [cells45] at hc
      exact ⟨⟨a_0, a_1, a_2, a_3⟩, hc⟩
    obtain ⟨F, hF⟩ : ∃ F : Nat → S45, ∀ i, i < len → w.cells? base (a.add (i * 4)) 4 = some [.int .i64 (F i).f0, .int .i64 (F i).f1, .int .i64 (F i).f2, .int .i64 (F i).f3] := by
      refine ⟨fun i => if h : i < len then (H i h).choose else P.z45, fun i h => ?_⟩
      simp only [dif_pos h]
      exact (H i h).choose_spec
    refine ⟨some a, cap, (List.range len).map F, by simp, by simpa using hl, ?_, ?_, ?_⟩
    · rfl
    · simp only [List.length_map, List.length_range]
      unfold maxLen at hm
      omega
    · intro _
      refine ⟨a, rfl, fun j p hj => ?_⟩
      have hjl : j < len := by
        have := (List.getElem?_eq_some_iff.1 hj).1
        simpa using this
      have hp : p = F j := by
        rw [List.getElem?_map, List.getElem?_range hjl] at hj
        simpa using hj.symm
      subst hp
      refine ⟨[.int .i64 (F j).f0, .int .i64 (F j).f1, .int .i64 (F j).f2, .int .i64 (F j).f3], rfl, k45_mk w (F j), ?_⟩
      intro i u hu
      obtain ⟨_, hcl, hat⟩ := World.cells?_some (hF j hjl)
      have hil : i < 4 := (List.getElem?_eq_some_iff.1 hu).1
      have := hat i hil
      rw [Go.Deep.add_add] at this
      rw [show j * (k45).sz + i = j * 4 + i from rfl, this, hu]

theorem list_of2 {cs : List Value} (h : cs.length = 2) : ∃ v0 v1, cs = [v0, v1] := by
  match cs, h with
  | [v0, v1], _ => exact ⟨v0, v1, rfl⟩

theorem trod25 {n : Nat} {cs : List Value} {x : DataW X × List MemPlace} (h : DataW.trod enc Try.prog w base spare held n 25 cs = some x) : ∃ (a_0A : Option Addr) (a_0c : Nat) (a_0l : List Int) (a_1A : Option Addr) (a_1c : Nat) (a_1l : List S45), cs = [.slice a_0A a_0l.length a_0c, .slice a_1A a_1l.length a_1c] ∧ a_0l.length ≤ a_0c ∧ Kd.C (Kd.int .i64) w a_0A a_0l.length a_0l ∧ a_1l.length ≤ a_1c ∧ Kd.C k45 w a_1A a_1l.length a_1l := by
  obtain ⟨xs, m, _, hx, hl, hlen, hg⟩ := DataW.trod_struct Try.underlying25 h
  rw [cells25] at hl
  obtain ⟨v0, v1, rfl⟩ := list_of2 hl
  obtain ⟨y0, h0⟩ := fld hlen hg 0 _ rfl 22 0 1 rfl rfl cells22
  obtain ⟨y1, h1⟩ := fld hlen hg 1 _ rfl 23 1 1 rfl rfl cells23
  obtain ⟨a_0A, a_0c, a_0l, e0, f0_0, f0_1⟩ := trod22 h0
  obtain ⟨a_1A, a_1c, a_1l, e1, f1_0, f1_1⟩ := trod23 h1
  simp only [List.drop_zero, List.take_succ_cons, List.take_zero, List.drop_succ_cons, List.cons.injEq, and_true] at e0 e1
  subst e0 e1
  exact ⟨a_0A, a_0c, a_0l, a_1A, a_1c, a_1l, rfl, f0_0, f0_1, f1_0, f1_1⟩

set_option maxRecDepth 100000 in
theorem house_open {r : Reach} {b0 : Nat} {v : Value} {d : DataW X} {p : List MemPlace} (hval : Value.okWide Try.prog w r b0 25 v) (h : DataW.Trod enc Try.prog w base spare held 25 v d p) : ∃ (a_0A : Option Addr) (a_0c : Nat) (a_0l : List Int) (a_1A : Option Addr) (a_1c : Nat) (a_1l : List S45), v = .agg #[.slice a_0A a_0l.length a_0c, .slice a_1A a_1l.length a_1c] ∧ a_0l.length ≤ a_0c ∧ Kd.C (Kd.int .i64) w a_0A a_0l.length a_0l ∧ a_1l.length ≤ a_1c ∧ Kd.C k45 w a_1A a_1l.length a_1l := by
  obtain ⟨cs, rfl, hsz⟩ := okWide_struct Try.underlying25 hval
  obtain ⟨n, hn⟩ := h
  obtain ⟨a_0A, a_0c, a_0l, a_1A, a_1c, a_1l, hH, f0, f1, f2, f3⟩ := trod25 hn
  obtain ⟨l⟩ := cs
  obtain rfl : l = _ := hH
  exact ⟨a_0A, a_0c, a_0l, a_1A, a_1c, a_1l, rfl, f0, f1, f2, f3⟩

end

end Go.Proofs.Ytmnjlnkfihklgaa.T
