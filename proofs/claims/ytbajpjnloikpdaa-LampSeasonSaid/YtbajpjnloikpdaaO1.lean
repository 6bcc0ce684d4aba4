/- The laws' arguments, opened. -/
import Derived.Test.YtbajpjnloikpdaaU1
import Derived.Test.YtbajpjnloikpdaaRows
import Derived.ProofKit
import Derived.OpenShut
import Derived.ChangeOld
import Derived.SizedLaws
import Derived.Deep.Slices
namespace Go.Proofs.Ytbajpjnloikpdaa.T
open Go.ChangeShapes Go.WideShapes Go.ChangeAt Go.Deep
open Go.RowKit Go.Proofs.YtbajpjnloikpdaaW.PrintWords Go.Proofs.YtbajpjnloikpdaaW.PrintMore
open Go.Proofs.Ytbajpjnloikpdaa.P
set_option linter.unusedVariables false
set_option linter.unusedSimpArgs false

section
variable {X : Type} {enc : TypeId × Value → X} {w : World} {base : Nat} {spare : Nat → Bool} {held : Bool}
theorem fld {fs : Array Field} {n : Nat} {cs : List Value} {xs : List (DataW X × List MemPlace)} (hlen : xs.length = fs.size) (hg : ∀ (i : Nat) (f : Field), fs[i]? = some f → DataW.trod enc Try.prog w base spare held n f.type ((cs.drop f.offset).take (Try.prog.cellsOf f.type)) = xs[i]?) (i : Nat) (f : Field) (hf : fs[i]? = some f)
    (ty : TypeId) (off k : Nat) (h1 : f.type = ty) (h2 : f.offset = off) (h3 : Try.prog.cellsOf ty = k) :
    ∃ y, DataW.trod enc Try.prog w base spare held n ty ((cs.drop off).take k) = some y := by
  have hi : i < xs.length := by rw [hlen]; exact (Array.getElem?_eq_some_iff.1 hf).1
  subst h1 h2 h3
  exact ⟨_, (hg i f hf).trans (List.getElem?_eq_getElem hi)⟩

theorem cells3 : Try.prog.cellsOf 3 = 1 := by kernel_rfl

theorem trod3 {n : Nat} {cs : List Value} {x : DataW X × List MemPlace} (h : DataW.trod enc Try.prog w base spare held n 3 cs = some x) : ∃ (a : Int), cs = [.int .i64 a] := by
  obtain ⟨a, hc, _⟩ := DataW.trod_int Try.underlying3 h
  exact ⟨a, hc⟩

set_option maxRecDepth 100000 in
theorem int_open {r : Reach} {b0 : Nat} {v : Value} {d : DataW X} {p : List MemPlace} (hval : Value.okWide Try.prog w r b0 3 v) (h : DataW.Trod enc Try.prog w base spare held 3 v d p) : ∃ m : Int, v = .int .i64 m := okWide_int Try.underlying3 hval

theorem cells27 : Try.prog.cellsOf 27 = 1 := by kernel_rfl

theorem trod27 {n : Nat} {cs : List Value} {x : DataW X × List MemPlace} (h : DataW.trod enc Try.prog w base spare held n 27 cs = some x) : ∃ (aA : Option Addr) (ac : Nat) (al : List Int), cs = [.slice aA al.length ac] ∧ al.length ≤ ac ∧ Kd.C (Kd.int .i64) w aA al.length al := by
  rcases open_slice Try.underlying27 h with ⟨rfl, _⟩ | ⟨a, len, cap, m, k, D, Pl, rfl, hb, hl, hm, hmm, hx, hi⟩
  · exact ⟨none, 0, [], rfl, Nat.le_refl _, rfl, by simp, fun h => absurd h (by simp)⟩
  · have hlm : len ≤ m := by rw [hmm]; split <;> omega
    have H : ∀ i, i < len → ∃ s : Int, w.cells? base (a.add (i * 1)) 1 = some [.int .i64 s] := by
      intro i hil
      obtain ⟨cs', hc, ht⟩ := hi i (by omega)
      obtain ⟨a, rfl⟩ := trod3 ht
      rw [cells3] at hc
      exact ⟨a, hc⟩
    obtain ⟨F, hF⟩ : ∃ F : Nat → Int, ∀ i, i < len → w.cells? base (a.add (i * 1)) 1 = some [.int .i64 (F i)] := by
      refine ⟨fun i => if h : i < len then (H i h).choose else 0, fun i h => ?_⟩
      simp only [dif_pos h]
      exact (H i h).choose_spec
    refine ⟨some a, cap, (List.range len).map F, by simp, by simpa using hl, ?_, ?_, ?_⟩
    · rfl
    · simp only [List.length_map, List.length_range]
      unfold maxLen at hm
      omega
    · intro _
      refine ⟨a, rfl, fun j p hj => ?_⟩
      have hjl : j < len := by
        have := (List.getElem?_eq_some_iff.1 hj).1
        simpa using this
      have hp : p = F j := by
        rw [List.getElem?_map, List.getElem?_range hjl] at hj
        simpa using hj.symm
      subst hp
      refine ⟨[.int .i64 (F j)], rfl, rfl, ?_⟩
      intro i u hu
      obtain ⟨_, hcl, hat⟩ := World.cells?_some (hF j hjl)
      have hil : i < 1 := (List.getElem?_eq_some_iff.1 hu).1
      have := hat i hil
      rw [Go.Deep.add_add] at this
      rw [show j * ((Kd.int .i64)).sz + i = j * 1 + i from rfl, this, hu]

set_option maxRecDepth 100000 in
theorem ints_open {r : Reach} {b0 : Nat} {v : Value} {d : DataW X} {p : List MemPlace} (hval : Value.okWide Try.prog w r b0 27 v) (h : DataW.Trod enc Try.prog w base spare held 27 v d p) : ∃ (aA : Option Addr) (ac : Nat) (al : List Int), v = .slice aA al.length ac ∧ al.length ≤ ac ∧ Kd.C (Kd.int .i64) w aA al.length al := by
  obtain ⟨A, n, c, rfl⟩ := okWide_slice Try.underlying27 hval
  obtain ⟨k, hk⟩ := h
  obtain ⟨A', c', l, he, h1, h2⟩ := trod27 hk
  simp only [Value.cells, List.cons.injEq, Value.slice.injEq, and_true] at he
  obtain ⟨rfl, rfl, rfl⟩ := he
  exact ⟨A, c, l, rfl, h1, h2⟩

theorem cells26 : Try.prog.cellsOf 26 = 9 := by kernel_rfl

theorem cells23 : Try.prog.cellsOf 23 = 2 := by kernel_rfl

theorem list_of2 {cs : List Value} (h : cs.length = 2) : ∃ v0 v1, cs = [v0, v1] := by
  match cs, h with
  | [v0, v1], _ => exact ⟨v0, v1, rfl⟩

theorem trod23 {n : Nat} {cs : List Value} {x : DataW X × List MemPlace} (h : DataW.trod enc Try.prog w base spare held n 23 cs = some x) : ∃ (a_0 : Int) (a_1 : Int), cs = [.int .i64 a_0, .int .i64 a_1] := by
  obtain ⟨xs, m, _, hx, hl, hlen, hg⟩ := DataW.trod_struct Try.underlying23 h
  rw [cells23] at hl
  obtain ⟨v0, v1, rfl⟩ := list_of2 hl
  obtain ⟨y0, h0⟩ := fld hlen hg 0 _ rfl 3 0 1 rfl rfl cells3
  obtain ⟨y1, h1⟩ := fld hlen hg 1 _ rfl 3 1 1 rfl rfl cells3
  obtain ⟨a_0, e0⟩ := trod3 h0
  obtain ⟨a_1, e1⟩ := trod3 h1
  simp only [List.drop_zero, List.take_succ_cons, List.take_zero, List.drop_succ_cons, List.cons.injEq, and_true] at e0 e1
  subst e0 e1
  exact ⟨a_0, a_1, rfl⟩

theorem cells24 : Try.prog.cellsOf 24 = 1 := by kernel_rfl

theorem cells64 : Try.prog.cellsOf 64 = 3 := by kernel_rfl

theorem list_of3 {cs : List Value} (h : cs.length = 3) : ∃ v0 v1 v2, cs = [v0, v1, v2] := by
  match cs, h with
  | [v0, v1, v2], _ => exact ⟨v0, v1, v2, rfl⟩

theorem trod64 {n : Nat} {cs : List Value} {x : DataW X × List MemPlace} (h : DataW.trod enc Try.prog w base spare held n 64 cs = some x) : ∃ (a_0 : Int) (a_1 : Int) (a_2 : Int), cs = [.int .i64 a_0, .int .i64 a_1, .int .i64 a_2] := by
  obtain ⟨xs, m, _, hx, hl, hlen, hg⟩ := DataW.trod_struct Try.underlying64 h
  rw [cells64] at hl
  obtain ⟨v0, v1, v2, rfl⟩ := list_of3 hl
  obtain ⟨y0, h0⟩ := fld hlen hg 0 _ rfl 3 0 1 rfl rfl cells3
  obtain ⟨y1, h1⟩ := fld hlen hg 1 _ rfl 3 1 1 rfl rfl cells3
  obtain ⟨y2, h2⟩ := fld hlen hg 2 _ rfl 3 2 1 rfl rfl cells3
  obtain ⟨a_0, e0⟩ := trod3 h0
  obtain ⟨a_1, e1⟩ := trod3 h1
  obtain ⟨a_2, e2⟩ := trod3 h2
  simp only [List.drop_zero, List.take_succ_cons, List.take_zero, List.drop_succ_cons, List.cons.injEq, and_true] at e0 e1 e2
  subst e0 e1 e2
  exact ⟨a_0, a_1, a_2, rfl⟩

theorem trod24 {n : Nat} {cs : List Value} {x : DataW X × List MemPlace} (h : DataW.trod enc Try.prog w base spare held n 24 cs = some x) : ∃ (aA : Option Addr) (ac : Nat) (al : List S64), cs = [.slice aA al.length ac] ∧ al.length ≤ ac ∧ Kd.C k64 w aA al.length al := by
  rcases open_slice Try.underlying24 h with ⟨rfl, _⟩ | ⟨a, len, cap, m, k, D, Pl, rfl, hb, hl, hm, hmm, hx, hi⟩
  · exact ⟨none, 0, [], rfl, Nat.le_refl _, rfl, by simp, fun h => absurd h (by simp)⟩
  · have hlm : len ≤ m := by rw [hmm]; split <;> omega
    have H : ∀ i, i < len → ∃ s : S64, w.cells? base (a.add (i * 3)) 3 = some [.int .i64 s.f0, .int .i64 s.f1, .int .i64 s.f2] := by
      intro i hil
      obtain ⟨cs', hc, ht⟩ := hi i (by omega)
      obtain ⟨a_0, a_1, a_2, rfl⟩ := trod64 ht
      rw [cells64] at hc
      exact ⟨⟨a_0, a_1, a_2⟩, hc⟩
    obtain ⟨F, hF⟩ : ∃ F : Nat → S64, ∀ i, i < len → w.cells? base (a.add (i * 3)) 3 = some [.int .i64 (F i).f0, .int .i64 (F i).f1, .int .i64 (F i).f2] := by
      refine ⟨fun i => if h : i < len then (H i h).choose else z64, fun i h => ?_⟩
      simp only [dif_pos h]
      exact (H i h).choose_spec
    refine ⟨some a, cap, (List.range len).map F, by simp, by simpa using hl, ?_, ?_, ?_⟩
    · rfl
    · simp only [List.length_map, List.length_range]
      unfold maxLen at hm
      omega
    · intro _
      refine ⟨a, rfl, fun j p hj => ?_⟩
      have hjl : j < len := by
        have := (List.getElem?_eq_some_iff.1 hj).1
        simpa using this
      have hp : p = F j := by
        rw [List.getElem?_map, List.getElem?_range hjl] at hj
        simpa using hj.symm
      subst hp
      refine ⟨[.int .i64 (F j).f0, .int .i64 (F j).f1, .int .i64 (F j).f2], rfl, k64_mk w (F j), ?_⟩
      intro i u hu
      obtain ⟨_, hcl, hat⟩ := World.cells?_some (hF j hjl)
      have hil : i < 3 := (List.getElem?_eq_some_iff.1 hu).1
      have := hat i hil
      rw [Go.Deep.add_add] at this
      rw [show j * (k64).sz + i = j * 3 + i from rfl, this, hu]

theorem list_of9 {cs : List Value} (h : cs.length = 9) : ∃ v0 v1 v2 v3 v4 v5 v6 v7 v8, cs = [v0, v1, v2, v3, v4, v5, v6, v7, v8] := by
  match cs, h with
  | [v0, v1, v2, v3, v4, v5, v6, v7, v8], _ => exact ⟨v0, v1, v2, v3, v4, v5, v6, v7, v8, rfl⟩

theorem trod26 {n : Nat} {cs : List Value} {x : DataW X × List MemPlace} (h : DataW.trod enc Try.prog w base spare held n 26 cs = some x) : ∃ (a_0_0 : Int) (a_0_1 : Int) (a_1_0 : Int) (a_1_1 : Int) (a_2_0 : Int) (a_2_1 : Int) (a_3 : Int) (a_4A : Option Addr) (a_4c : Nat) (a_4l : List S64) (a_5 : Int), cs = [.int .i64 a_0_0, .int .i64 a_0_1, .int .i64 a_1_0, .int .i64 a_1_1, .int .i64 a_2_0, .int .i64 a_2_1, .int .i64 a_3, .slice a_4A a_4l.length a_4c, .int .i64 a_5] ∧ a_4l.length ≤ a_4c ∧ Kd.C k64 w a_4A a_4l.length a_4l := by
  obtain ⟨xs, m, _, hx, hl, hlen, hg⟩ := DataW.trod_struct Try.underlying26 h
  rw [cells26] at hl
  obtain ⟨v0, v1, v2, v3, v4, v5, v6, v7, v8, rfl⟩ := list_of9 hl
  obtain ⟨y0, h0⟩ := fld hlen hg 0 _ rfl 23 0 2 rfl rfl cells23
  obtain ⟨y1, h1⟩ := fld hlen hg 1 _ rfl 23 2 2 rfl rfl cells23
  obtain ⟨y2, h2⟩ := fld hlen hg 2 _ rfl 23 4 2 rfl rfl cells23
  obtain ⟨y3, h3⟩ := fld hlen hg 3 _ rfl 3 6 1 rfl rfl cells3
  obtain ⟨y4, h4⟩ := fld hlen hg 4 _ rfl 24 7 1 rfl rfl cells24
  obtain ⟨y5, h5⟩ := fld hlen hg 5 _ rfl 3 8 1 rfl rfl cells3
  obtain ⟨a_0_0, a_0_1, e0⟩ := trod23 h0
  obtain ⟨a_1_0, a_1_1, e1⟩ := trod23 h1
  obtain ⟨a_2_0, a_2_1, e2⟩ := trod23 h2
  obtain ⟨a_3, e3⟩ := trod3 h3
  obtain ⟨a_4A, a_4c, a_4l, e4, f4_0, f4_1⟩ := trod24 h4
  obtain ⟨a_5, e5⟩ := trod3 h5
  simp only [List.drop_zero, List.take_succ_cons, List.take_zero, List.drop_succ_cons, List.cons.injEq, and_true] at e0 e1 e2 e3 e4 e5
  obtain ⟨e0_0, e0_1⟩ := e0
  obtain ⟨e1_0, e1_1⟩ := e1
  obtain ⟨e2_0, e2_1⟩ := e2
  subst e0_0 e0_1 e1_0 e1_1 e2_0 e2_1 e3 e4 e5
  exact ⟨a_0_0, a_0_1, a_1_0, a_1_1, a_2_0, a_2_1, a_3, a_4A, a_4c, a_4l, a_5, rfl, f4_0, f4_1⟩

set_option maxRecDepth 100000 in
theorem lamp_open0 {r : Reach} {b0 : Nat} {v : Value} {d : DataW X} {p : List MemPlace} (hval : Value.okWide Try.prog w r b0 26 v) (h : DataW.Trod enc Try.prog w base spare held 26 v d p) : ∃ (a_0_0 : Int) (a_0_1 : Int) (a_1_0 : Int) (a_1_1 : Int) (a_2_0 : Int) (a_2_1 : Int) (a_3 : Int) (a_4A : Option Addr) (a_4c : Nat) (a_4l : List S64) (a_5 : Int), v = .agg #[.int .i64 a_0_0, .int .i64 a_0_1, .int .i64 a_1_0, .int .i64 a_1_1, .int .i64 a_2_0, .int .i64 a_2_1, .int .i64 a_3, .slice a_4A a_4l.length a_4c, .int .i64 a_5] ∧ a_4l.length ≤ a_4c ∧ Kd.C k64 w a_4A a_4l.length a_4l := by
  obtain ⟨cs, rfl, hsz⟩ := okWide_struct Try.underlying26 hval
  obtain ⟨n, hn⟩ := h
  obtain ⟨a_0_0, a_0_1, a_1_0, a_1_1, a_2_0, a_2_1, a_3, a_4A, a_4c, a_4l, a_5, hH, f0, f1⟩ := trod26 hn
  obtain ⟨l⟩ := cs
  obtain rfl : l = _ := hH
  exact ⟨a_0_0, a_0_1, a_1_0, a_1_1, a_2_0, a_2_1, a_3, a_4A, a_4c, a_4l, a_5, rfl, f0, f1⟩

theorem cells54 : Try.prog.cellsOf 54 = 2 := by kernel_rfl

theorem trod54 {n : Nat} {cs : List Value} {x : DataW X × List MemPlace} (h : DataW.trod enc Try.prog w base spare held n 54 cs = some x) : ∃ (a_0 : Int) (a_1 : Int), cs = [.int .i64 a_0, .int .i64 a_1] := by
  obtain ⟨xs, m, _, hx, hl, hlen, hg⟩ := DataW.trod_struct Try.underlying54 h
  rw [cells54] at hl
  obtain ⟨v0, v1, rfl⟩ := list_of2 hl
  obtain ⟨y0, h0⟩ := fld hlen hg 0 _ rfl 3 0 1 rfl rfl cells3
  obtain ⟨y1, h1⟩ := fld hlen hg 1 _ rfl 3 1 1 rfl rfl cells3
  obtain ⟨a_0, e0⟩ := trod3 h0
  obtain ⟨a_1, e1⟩ := trod3 h1
  simp only [List.drop_zero, List.take_succ_cons, List.take_zero, List.drop_succ_cons, List.cons.injEq, and_true] at e0 e1
  subst e0 e1
  exact ⟨a_0, a_1, rfl⟩

set_option maxRecDepth 100000 in
theorem truth_open {r : Reach} {b0 : Nat} {v : Value} {d : DataW X} {p : List MemPlace} (hval : Value.okWide Try.prog w r b0 54 v) (h : DataW.Trod enc Try.prog w base spare held 54 v d p) : ∃ (a_0 : Int) (a_1 : Int), v = .agg #[.int .i64 a_0, .int .i64 a_1] := by
  obtain ⟨cs, rfl, hsz⟩ := okWide_struct Try.underlying54 hval
  obtain ⟨n, hn⟩ := h
  obtain ⟨a_0, a_1, hH⟩ := trod54 hn
  obtain ⟨l⟩ := cs
  obtain rfl : l = _ := hH
  exact ⟨a_0, a_1, rfl⟩

theorem cells60 : Try.prog.cellsOf 60 = 4 := by kernel_rfl

theorem list_of4 {cs : List Value} (h : cs.length = 4) : ∃ v0 v1 v2 v3, cs = [v0, v1, v2, v3] := by
  match cs, h with
  | [v0, v1, v2, v3], _ => exact ⟨v0, v1, v2, v3, rfl⟩

theorem trod60 {n : Nat} {cs : List Value} {x : DataW X × List MemPlace} (h : DataW.trod enc Try.prog w base spare held n 60 cs = some x) : ∃ (a_0 : Int) (a_1 : Int) (a_2 : Int) (a_3 : Int), cs = [.int .i64 a_0, .int .i64 a_1, .int .i64 a_2, .int .i64 a_3] := by
  obtain ⟨xs, m, _, hx, hl, hlen, hg⟩ := DataW.trod_struct Try.underlying60 h
  rw [cells60] at hl
  obtain ⟨v0, v1, v2, v3, rfl⟩ := list_of4 hl
  obtain ⟨y0, h0⟩ := fld hlen hg 0 _ rfl 3 0 1 rfl rfl cells3
  obtain ⟨y1, h1⟩ := fld hlen hg 1 _ rfl 3 1 1 rfl rfl cells3
  obtain ⟨y2, h2⟩ := fld hlen hg 2 _ rfl 3 2 1 rfl rfl cells3
  obtain ⟨y3, h3⟩ := fld hlen hg 3 _ rfl 3 3 1 rfl rfl cells3
  obtain ⟨a_0, e0⟩ := trod3 h0
  obtain ⟨a_1, e1⟩ := trod3 h1
  obtain ⟨a_2, e2⟩ := trod3 h2
  obtain ⟨a_3, e3⟩ := trod3 h3
  simp only [List.drop_zero, List.take_succ_cons, List.take_zero, List.drop_succ_cons, List.cons.injEq, and_true] at e0 e1 e2 e3
  subst e0 e1 e2 e3
  exact ⟨a_0, a_1, a_2, a_3, rfl⟩

set_option maxRecDepth 100000 in
theorem loose_open {r : Reach} {b0 : Nat} {v : Value} {d : DataW X} {p : List MemPlace} (hval : Value.okWide Try.prog w r b0 60 v) (h : DataW.Trod enc Try.prog w base spare held 60 v d p) : ∃ (a_0 : Int) (a_1 : Int) (a_2 : Int) (a_3 : Int), v = .agg #[.int .i64 a_0, .int .i64 a_1, .int .i64 a_2, .int .i64 a_3] := by
  obtain ⟨cs, rfl, hsz⟩ := okWide_struct Try.underlying60 hval
  obtain ⟨n, hn⟩ := h
  obtain ⟨a_0, a_1, a_2, a_3, hH⟩ := trod60 hn
  obtain ⟨l⟩ := cs
  obtain rfl : l = _ := hH
  exact ⟨a_0, a_1, a_2, a_3, rfl⟩

theorem cells43 : Try.prog.cellsOf 43 = 3 := by kernel_rfl

theorem trod43 {n : Nat} {cs : List Value} {x : DataW X × List MemPlace} (h : DataW.trod enc Try.prog w base spare held n 43 cs = some x) : ∃ (a_0 : Int) (a_1A : Option Addr) (a_1c : Nat) (a_1l : List Int) (a_2A : Option Addr) (a_2c : Nat) (a_2l : List Int), cs = [.int .i64 a_0, .slice a_1A a_1l.length a_1c, .slice a_2A a_2l.length a_2c] ∧ a_1l.length ≤ a_1c ∧ Kd.C (Kd.int .i64) w a_1A a_1l.length a_1l ∧ a_2l.length ≤ a_2c ∧ Kd.C (Kd.int .i64) w a_2A a_2l.length a_2l := by
  obtain ⟨xs, m, _, hx, hl, hlen, hg⟩ := DataW.trod_struct Try.underlying43 h
  rw [cells43] at hl
  obtain ⟨v0, v1, v2, rfl⟩ := list_of3 hl
  obtain ⟨y0, h0⟩ := fld hlen hg 0 _ rfl 3 0 1 rfl rfl cells3
  obtain ⟨y1, h1⟩ := fld hlen hg 1 _ rfl 27 1 1 rfl rfl cells27
  obtain ⟨y2, h2⟩ := fld hlen hg 2 _ rfl 27 2 1 rfl rfl cells27
  obtain ⟨a_0, e0⟩ := trod3 h0
  obtain ⟨a_1A, a_1c, a_1l, e1, f1_0, f1_1⟩ := trod27 h1
  obtain ⟨a_2A, a_2c, a_2l, e2, f2_0, f2_1⟩ := trod27 h2
  simp only [List.drop_zero, List.take_succ_cons, List.take_zero, List.drop_succ_cons, List.cons.injEq, and_true] at e0 e1 e2
  subst e0 e1 e2
  exact ⟨a_0, a_1A, a_1c, a_1l, a_2A, a_2c, a_2l, rfl, f1_0, f1_1, f2_0, f2_1⟩

set_option maxRecDepth 100000 in
theorem season_open {r : Reach} {b0 : Nat} {v : Value} {d : DataW X} {p : List MemPlace} (hval : Value.okWide Try.prog w r b0 43 v) (h : DataW.Trod enc Try.prog w base spare held 43 v d p) : ∃ (a_0 : Int) (a_1A : Option Addr) (a_1c : Nat) (a_1l : List Int) (a_2A : Option Addr) (a_2c : Nat) (a_2l : List Int), v = .agg #[.int .i64 a_0, .slice a_1A a_1l.length a_1c, .slice a_2A a_2l.length a_2c] ∧ a_1l.length ≤ a_1c ∧ Kd.C (Kd.int .i64) w a_1A a_1l.length a_1l ∧ a_2l.length ≤ a_2c ∧ Kd.C (Kd.int .i64) w a_2A a_2l.length a_2l := by
  obtain ⟨cs, rfl, hsz⟩ := okWide_struct Try.underlying43 hval
  obtain ⟨n, hn⟩ := h
  obtain ⟨a_0, a_1A, a_1c, a_1l, a_2A, a_2c, a_2l, hH, f0, f1, f2, f3⟩ := trod43 hn
  obtain ⟨l⟩ := cs
  obtain rfl : l = _ := hH
  exact ⟨a_0, a_1A, a_1c, a_1l, a_2A, a_2c, a_2l, rfl, f0, f1, f2, f3⟩

set_option maxRecDepth 100000 in
theorem lamp_open {r : Reach} {b0 : Nat} {v : Value} {d : DataW X} {p : List MemPlace} (hval : Value.okWide Try.prog w r b0 26 v) (h : DataW.Trod enc Try.prog w base spare held 26 v d p) : ∃ (M : Lm) (A : Option Addr) (c : Nat), v = lv M A c ∧ M.gs.length ≤ c ∧ Kd.C k64 w A M.gs.length M.gs := by
  obtain ⟨a, b, c, d, e, f, g, A, n, l, i, rfl, h1, h2⟩ := lamp_open0 hval h
  exact ⟨⟨a, b, c, d, e, f, g, l, i⟩, A, n, rfl, h1, h2⟩

end

end Go.Proofs.Ytbajpjnloikpdaa.T
