/- A law's arguments, opened: a house, and slots. -/
import Derived.Test.YthdbkhdiaehblaaT15
import Derived.Test.YthdbkhdiaehblaaRows
import Derived.ProofKit
import Derived.OpenShut
import Derived.ChangeOld
import Derived.SizedLaws
import Derived.Deep.Slices
namespace Go.Proofs.Ythdbkhdiaehblaa.T
open Go.ChangeShapes Go.WideShapes Go.ChangeAt Go.Deep
open Go.RowKit Go.Proofs.YthdbkhdiaehblaaW.PrintWords Go.Proofs.YthdbkhdiaehblaaW.PrintMore
open Go.Proofs.Ythdbkhdiaehblaa.P
set_option linter.unusedVariables false
section
variable {X : Type} {enc : TypeId × Value → X} {w : World} {base : Nat} {spare : Nat → Bool} {held : Bool}
theorem trod_i64 {n : Nat} {cs : List Value} {x : DataW X × List MemPlace} (h : DataW.trod enc Try.prog w base spare held n 3 cs = some x) : ∃ a : Int, cs = [.int .i64 a] := by
  obtain ⟨a, hc, _⟩ := DataW.trod_int Try.underlying3 h
  exact ⟨a, hc⟩
theorem c3 : Try.prog.cellsOf 3 = 1 := by kernel_rfl
theorem c23 : Try.prog.cellsOf 23 = 2 := by kernel_rfl
theorem c25 : Try.prog.cellsOf 25 = 8 := by kernel_rfl
theorem c36 : Try.prog.cellsOf 36 = 6 := by kernel_rfl
theorem two_of {cs : List Value} (h : cs.length = 2) : ∃ a b, cs = [a, b] := by
  match cs, h with
  | [a, b], _ => exact ⟨a, b, rfl⟩
theorem six_of {cs : List Value} (h : cs.length = 6) : ∃ a b c d e f, cs = [a, b, c, d, e, f] := by
  match cs, h with
  | [a, b, c, d, e, f], _ => exact ⟨a, b, c, d, e, f, rfl⟩
theorem eight_of {cs : List Value} (h : cs.length = 8) : ∃ a b c d e f g i, cs = [a, b, c, d, e, f, g, i] := by
  match cs, h with
  | [a, b, c, d, e, f, g, i], _ => exact ⟨a, b, c, d, e, f, g, i, rfl⟩
theorem fld {fs : Array Field} {n : Nat} {cs : List Value} {xs : List (DataW X × List MemPlace)} (hlen : xs.length = fs.size) (hg : ∀ (i : Nat) (f : Field), fs[i]? = some f → DataW.trod enc Try.prog w base spare held n f.type ((cs.drop f.offset).take (Try.prog.cellsOf f.type)) = xs[i]?) (i : Nat) (f : Field) (hf : fs[i]? = some f)
    (ty : TypeId) (off k : Nat) (h1 : f.type = ty) (h2 : f.offset = off) (h3 : Try.prog.cellsOf ty = k) :
    ∃ y, DataW.trod enc Try.prog w base spare held n ty ((cs.drop off).take k) = some y := by
  have hi : i < xs.length := by rw [hlen]; exact (Array.getElem?_eq_some_iff.1 hf).1
  subst h1 h2 h3
  exact ⟨_, (hg i f hf).trans (List.getElem?_eq_getElem hi)⟩
theorem trod_span {n : Nat} {cs : List Value} {x : DataW X × List MemPlace} (h : DataW.trod enc Try.prog w base spare held n 23 cs = some x) : ∃ a b : Int, cs = [.int .i64 a, .int .i64 b] := by
  obtain ⟨xs, m, _, hx, hl, hlen, hg⟩ := DataW.trod_struct Try.underlying23 h
  rw [c23] at hl
  obtain ⟨v0, v1, rfl⟩ := two_of hl
  obtain ⟨y0, h0⟩ := fld hlen hg 0 _ rfl 3 0 1 rfl rfl c3
  obtain ⟨y1, h1⟩ := fld hlen hg 1 _ rfl 3 1 1 rfl rfl c3
  obtain ⟨a, ha⟩ := trod_i64 h0
  obtain ⟨b, hb⟩ := trod_i64 h1
  simp only [List.drop_zero, List.take_succ_cons, List.take_zero, List.drop_succ_cons, List.cons.injEq, and_true] at ha hb
  subst ha hb
  exact ⟨a, b, rfl⟩
theorem trod_slot {n : Nat} {cs : List Value} {x : DataW X × List MemPlace} (h : DataW.trod enc Try.prog w base spare held n 36 cs = some x) : ∃ s : S36, cs = [.int .i64 s.f0, .int .i64 s.f1, .int .i64 s.f2.f0, .int .i64 s.f2.f1, .int .i64 s.f3, .int .i64 s.f4] := by
  obtain ⟨xs, m, _, hx, hl, hlen, hg⟩ := DataW.trod_struct Try.underlying36 h
  rw [c36] at hl
  obtain ⟨v0, v1, v2, v3, v4, v5, rfl⟩ := six_of hl
  obtain ⟨y0, h0⟩ := fld hlen hg 0 _ rfl 3 0 1 rfl rfl c3
  obtain ⟨y1, h1⟩ := fld hlen hg 1 _ rfl 3 1 1 rfl rfl c3
  obtain ⟨y2, h2⟩ := fld hlen hg 2 _ rfl 23 2 2 rfl rfl c23
  obtain ⟨y3, h3⟩ := fld hlen hg 3 _ rfl 3 4 1 rfl rfl c3
  obtain ⟨y4, h4⟩ := fld hlen hg 4 _ rfl 3 5 1 rfl rfl c3
  obtain ⟨a, ha⟩ := trod_i64 h0
  obtain ⟨b, hb⟩ := trod_i64 h1
  obtain ⟨c, d, hc⟩ := trod_span h2
  obtain ⟨e, he⟩ := trod_i64 h3
  obtain ⟨f, hf⟩ := trod_i64 h4
  simp only [List.drop_zero, List.take_succ_cons, List.take_zero, List.drop_succ_cons, List.cons.injEq, and_true] at ha hb hc he hf
  obtain ⟨hc, hd⟩ := hc
  subst ha hb hc hd he hf
  exact ⟨⟨a, b, ⟨c, d⟩, e, f⟩, rfl⟩
theorem trod_house {n : Nat} {cs : List Value} {x : DataW X × List MemPlace} (h : DataW.trod enc Try.prog w base spare held n 25 cs = some x) : ∃ H : Hs, cs = [.int .i64 H.teams, .int .i64 H.walk, .int .i64 H.early, .int .i64 H.foyer, .int .i64 H.dl, .int .i64 H.dh, .int .i64 H.cl, .int .i64 H.ch] := by
  obtain ⟨xs, m, _, hx, hl, hlen, hg⟩ := DataW.trod_struct Try.underlying25 h
  rw [c25] at hl
  obtain ⟨v0, v1, v2, v3, v4, v5, v6, v7, rfl⟩ := eight_of hl
  obtain ⟨y0, h0⟩ := fld hlen hg 0 _ rfl 3 0 1 rfl rfl c3
  obtain ⟨y1, h1⟩ := fld hlen hg 1 _ rfl 3 1 1 rfl rfl c3
  obtain ⟨y2, h2⟩ := fld hlen hg 2 _ rfl 3 2 1 rfl rfl c3
  obtain ⟨y3, h3⟩ := fld hlen hg 3 _ rfl 3 3 1 rfl rfl c3
  obtain ⟨y4, h4⟩ := fld hlen hg 4 _ rfl 23 4 2 rfl rfl c23
  obtain ⟨y5, h5⟩ := fld hlen hg 5 _ rfl 23 6 2 rfl rfl c23
  obtain ⟨a, ha⟩ := trod_i64 h0
  obtain ⟨b, hb⟩ := trod_i64 h1
  obtain ⟨c, hc⟩ := trod_i64 h2
  obtain ⟨d, hd⟩ := trod_i64 h3
  obtain ⟨e, f, he⟩ := trod_span h4
  obtain ⟨g, i, hq⟩ := trod_span h5
  simp only [List.drop_zero, List.take_succ_cons, List.take_zero, List.drop_succ_cons, List.cons.injEq, and_true] at ha hb hc hd he hq
  obtain ⟨he, hf⟩ := he
  obtain ⟨hq, hi⟩ := hq
  subst ha hb hc hd he hf hq hi
  exact ⟨⟨a, b, c, d, e, f, g, i⟩, rfl⟩
set_option maxRecDepth 100000 in
theorem house_open {r : Reach} {b0 : Nat} {v : Value} {d : DataW X} {p : List MemPlace} (hval : Value.okWide Try.prog w r b0 25 v) (h : DataW.Trod enc Try.prog w base spare held 25 v d p) : ∃ H : Hs, v = hv H := by
  obtain ⟨cs, rfl, hsz⟩ := okWide_struct Try.underlying25 hval
  obtain ⟨n, hn⟩ := h
  obtain ⟨H, hH⟩ := trod_house hn
  obtain ⟨l⟩ := cs
  obtain rfl : l = _ := hH
  exact ⟨H, rfl⟩
set_option maxRecDepth 100000 in
theorem slot_open {r : Reach} {b0 : Nat} {v : Value} {d : DataW X} {p : List MemPlace} (hval : Value.okWide Try.prog w r b0 36 v) (h : DataW.Trod enc Try.prog w base spare held 36 v d p) : ∃ s : S36, v = sv s := by
  obtain ⟨cs, rfl, hsz⟩ := okWide_struct Try.underlying36 hval
  obtain ⟨n, hn⟩ := h
  obtain ⟨s, hs⟩ := trod_slot hn
  obtain ⟨l⟩ := cs
  obtain rfl : l = _ := hs
  exact ⟨s, rfl⟩
theorem slots_cells {n : Nat} {cs : List Value} {x : DataW X × List MemPlace} (h : DataW.trod enc Try.prog w base spare held n 26 cs = some x) :
    ∃ (A : Option Addr) (c : Nat) (l : List S36), cs = [.slice A l.length c] ∧ l.length ≤ c ∧ Kd.C k36 w A l.length l := by
  rcases open_slice Try.underlying26 h with ⟨rfl, _⟩ | ⟨a, len, cap, m, k, D, Pl, rfl, hb, hl, hm, hmm, hx, hi⟩
  · exact ⟨none, 0, [], rfl, Nat.le_refl _, rfl, by simp, fun h => absurd h (by simp)⟩
  · have hlm : len ≤ m := by rw [hmm]; split <;> omega
    have H : ∀ i, i < len → ∃ s : S36, w.cells? base (a.add (i * 6)) 6 = some [.int .i64 s.f0, .int .i64 s.f1, .int .i64 s.f2.f0, .int .i64 s.f2.f1, .int .i64 s.f3, .int .i64 s.f4] := by
      intro i hil
      obtain ⟨cs', hc, ht⟩ := hi i (by omega)
      obtain ⟨s, rfl⟩ := trod_slot ht
      rw [c36] at hc
      exact ⟨s, hc⟩
    obtain ⟨F, hF⟩ : ∃ F : Nat → S36, ∀ i, i < len → w.cells? base (a.add (i * 6)) 6 = some [.int .i64 (F i).f0, .int .i64 (F i).f1, .int .i64 (F i).f2.f0, .int .i64 (F i).f2.f1, .int .i64 (F i).f3, .int .i64 (F i).f4] := by
      refine ⟨fun i => if h : i < len then (H i h).choose else z36, fun i h => ?_⟩
      simp only [dif_pos h]
      exact (H i h).choose_spec
    refine ⟨some a, cap, (List.range len).map F, by simp, by simpa using hl, ?_, ?_, ?_⟩
    · rfl
    · have : maxLen = maxLen := rfl
      simp only [List.length_map, List.length_range]
      unfold maxLen at hm
      omega
    · intro _
      refine ⟨a, rfl, fun j p hj => ?_⟩
      have hjl : j < len := by
        have := (List.getElem?_eq_some_iff.1 hj).1
        simpa using this
      have hp : p = F j := by
        rw [List.getElem?_map, List.getElem?_range hjl] at hj
        simpa using hj.symm
      subst hp
      refine ⟨_, slot_len (F j), k36_mk w (F j), ?_⟩
      intro i u hu
      obtain ⟨_, hcl, hat⟩ := World.cells?_some (hF j hjl)
      have hil : i < 6 := (List.getElem?_eq_some_iff.1 hu).1
      have := hat i hil
      rw [Go.Deep.add_add] at this
      rw [show j * k36.sz + i = j * 6 + i from rfl, this, hu]
set_option maxRecDepth 100000 in
theorem slots_open {r : Reach} {b0 : Nat} {v : Value} {d : DataW X} {p : List MemPlace} (hval : Value.okWide Try.prog w r b0 26 v) (h : DataW.Trod enc Try.prog w base spare held 26 v d p) :
    ∃ (A : Option Addr) (c : Nat) (l : List S36), v = .slice A l.length c ∧ l.length ≤ c ∧ Kd.C k36 w A l.length l := by
  obtain ⟨A, n, c, rfl⟩ := okWide_slice Try.underlying26 hval
  obtain ⟨k, hk⟩ := h
  obtain ⟨A', c', l, he, h1, h2⟩ := slots_cells hk
  simp only [Value.cells, List.cons.injEq, Value.slice.injEq, and_true] at he
  obtain ⟨rfl, rfl, rfl⟩ := he
  exact ⟨A, c, l, rfl, h1, h2⟩
end
end Go.Proofs.Ythdbkhdiaehblaa.T
