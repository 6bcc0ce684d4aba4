/- A law's arguments, opened: whole numbers in a row, and a case. -/
import Derived.Test.YthdbkhdiaehblaaT20
namespace Go.Proofs.Ythdbkhdiaehblaa.T
open Go.ChangeShapes Go.WideShapes Go.ChangeAt Go.Deep
open Go.RowKit Go.Proofs.YthdbkhdiaehblaaW.PrintWords Go.Proofs.YthdbkhdiaehblaaW.PrintMore
open Go.Proofs.Ythdbkhdiaehblaa.P
set_option linter.unusedVariables false
section
variable {X : Type} {enc : TypeId × Value → X} {w : World} {base : Nat} {spare : Nat → Bool} {held : Bool}
theorem c47 : Try.prog.cellsOf 47 = 1 := by kernel_rfl
theorem c49 : Try.prog.cellsOf 49 = 3 := by kernel_rfl
theorem three_of {cs : List Value} (h : cs.length = 3) : ∃ a b c, cs = [a, b, c] := by
  match cs, h with
  | [a, b, c], _ => exact ⟨a, b, c, rfl⟩
theorem ints_cells {n : Nat} {cs : List Value} {x : DataW X × List MemPlace} (h : DataW.trod enc Try.prog w base spare held n 47 cs = some x) :
    ∃ (A : Option Addr) (c : Nat) (l : List Int), cs = [.slice A l.length c] ∧ l.length ≤ c ∧ Kd.C (Kd.int .i64) w A l.length l := by
  rcases open_slice Try.underlying47 h with ⟨rfl, _⟩ | ⟨a, len, cap, m, k, D, Pl, rfl, hb, hl, hm, hmm, hx, hi⟩
  · exact ⟨none, 0, [], rfl, Nat.le_refl _, rfl, by simp, fun h => absurd h (by simp)⟩
  · have hlm : len ≤ m := by rw [hmm]; split <;> omega
    have H : ∀ i, i < len → ∃ s : Int, w.cells? base (a.add (i * 1)) 1 = some [.int .i64 s] := by
      intro i hil
      obtain ⟨cs', hc, ht⟩ := hi i (by omega)
      obtain ⟨s, rfl⟩ := trod_i64 ht
      rw [c3] at hc
      exact ⟨s, hc⟩
    obtain ⟨F, hF⟩ : ∃ F : Nat → Int, ∀ i, i < len → w.cells? base (a.add (i * 1)) 1 = some [.int .i64 (F i)] := by
      refine ⟨fun i => if h : i < len then (H i h).choose else 0, fun i h => ?_⟩
      simp only [dif_pos h]
      exact (H i h).choose_spec
    refine ⟨some a, cap, (List.range len).map F, by simp, by simpa using hl, ?_, ?_, ?_⟩
    · rfl
    · simp only [List.length_map, List.length_range]
      unfold maxLen at hm
      omega
    · intro _
      refine ⟨a, rfl, fun j p hj => ?_⟩
      have hjl : j < len := by
        have := (List.getElem?_eq_some_iff.1 hj).1
        simpa using this
      have hp : p = F j := by
        rw [List.getElem?_map, List.getElem?_range hjl] at hj
        simpa using hj.symm
      subst hp
      refine ⟨[.int .i64 (F j)], rfl, rfl, ?_⟩
      intro i u hu
      obtain ⟨_, hcl, hat⟩ := World.cells?_some (hF j hjl)
      have hil : i < 1 := (List.getElem?_eq_some_iff.1 hu).1
      have := hat i hil
      rw [Go.Deep.add_add] at this
      rw [show j * (Kd.int .i64).sz + i = j * 1 + i from rfl, this, hu]
set_option maxRecDepth 100000 in
theorem ints_open {r : Reach} {b0 : Nat} {v : Value} {d : DataW X} {p : List MemPlace} (hval : Value.okWide Try.prog w r b0 47 v) (h : DataW.Trod enc Try.prog w base spare held 47 v d p) :
    ∃ (A : Option Addr) (c : Nat) (l : List Int), v = .slice A l.length c ∧ l.length ≤ c ∧ Kd.C (Kd.int .i64) w A l.length l := by
  obtain ⟨A, n, c, rfl⟩ := okWide_slice Try.underlying47 hval
  obtain ⟨k, hk⟩ := h
  obtain ⟨A', c', l, he, h1, h2⟩ := ints_cells hk
  simp only [Value.cells, List.cons.injEq, Value.slice.injEq, and_true] at he
  obtain ⟨rfl, rfl, rfl⟩ := he
  exact ⟨A, c, l, rfl, h1, h2⟩
theorem trod_case {n : Nat} {cs : List Value} {x : DataW X × List MemPlace} (h : DataW.trod enc Try.prog w base spare held n 49 cs = some x) :
    ∃ (Ar Ac : Option Addr) (cr cc : Nat) (rs es : List Int) (ra : Int), cs = [.slice Ar rs.length cr, .slice Ac es.length cc, .int .i64 ra] ∧ Kd.C (Kd.int .i64) w Ar rs.length rs ∧ Kd.C (Kd.int .i64) w Ac es.length es := by
  obtain ⟨xs, m, _, hx, hl, hlen, hg⟩ := DataW.trod_struct Try.underlying49 h
  rw [c49] at hl
  obtain ⟨v0, v1, v2, rfl⟩ := three_of hl
  obtain ⟨y0, h0⟩ := fld hlen hg 0 _ rfl 47 0 1 rfl rfl c47
  obtain ⟨y1, h1⟩ := fld hlen hg 1 _ rfl 47 1 1 rfl rfl c47
  obtain ⟨y2, h2⟩ := fld hlen hg 2 _ rfl 3 2 1 rfl rfl c3
  obtain ⟨Ar, cr, rs, ha, _, hA⟩ := ints_cells h0
  obtain ⟨Ac, cc, es, hb, _, hB⟩ := ints_cells h1
  obtain ⟨ra, hc⟩ := trod_i64 h2
  simp only [List.drop_zero, List.take_succ_cons, List.take_zero, List.drop_succ_cons, List.cons.injEq, and_true] at ha hb hc
  subst ha hb hc
  exact ⟨Ar, Ac, cr, cc, rs, es, ra, rfl, hA, hB⟩
set_option maxRecDepth 100000 in
theorem case_open {r : Reach} {b0 : Nat} {v : Value} {d : DataW X} {p : List MemPlace} (hval : Value.okWide Try.prog w r b0 49 v) (h : DataW.Trod enc Try.prog w base spare held 49 v d p) :
    ∃ (Ar Ac : Option Addr) (cr cc : Nat) (rs es : List Int) (ra : Int), v = .agg #[.slice Ar rs.length cr, .slice Ac es.length cc, .int .i64 ra] ∧ Kd.C (Kd.int .i64) w Ar rs.length rs ∧ Kd.C (Kd.int .i64) w Ac es.length es := by
  obtain ⟨cs, rfl, hsz⟩ := okWide_struct Try.underlying49 hval
  obtain ⟨n, hn⟩ := h
  obtain ⟨Ar, Ac, cr, cc, rs, es, ra, hH, hA, hB⟩ := trod_case hn
  obtain ⟨l⟩ := cs
  obtain rfl : l = _ := hH
  exact ⟨Ar, Ac, cr, cc, rs, es, ra, rfl, hA, hB⟩
set_option maxRecDepth 100000 in
theorem int_open {r : Reach} {b0 : Nat} {v : Value} {d : DataW X} {p : List MemPlace} (hval : Value.okWide Try.prog w r b0 3 v) (h : DataW.Trod enc Try.prog w base spare held 3 v d p) : ∃ m : Int, v = .int .i64 m := okWide_int Try.underlying3 hval
theorem c62 : Try.prog.cellsOf 62 = 4 := by kernel_rfl
theorem four_of {cs : List Value} (h : cs.length = 4) : ∃ a b c d, cs = [a, b, c, d] := by
  match cs, h with
  | [a, b, c, d], _ => exact ⟨a, b, c, d, rfl⟩
theorem trod_moment {n : Nat} {cs : List Value} {x : DataW X × List MemPlace} (h : DataW.trod enc Try.prog w base spare held n 62 cs = some x) :
    ∃ (Ar Ac : Option Addr) (cr cc : Nat) (rs es : List Int) (ra m : Int), cs = [.slice Ar rs.length cr, .slice Ac es.length cc, .int .i64 ra, .int .i64 m] ∧ Kd.C (Kd.int .i64) w Ar rs.length rs ∧ Kd.C (Kd.int .i64) w Ac es.length es := by
  obtain ⟨xs, k, _, hx, hl, hlen, hg⟩ := DataW.trod_struct Try.underlying62 h
  rw [c62] at hl
  obtain ⟨v0, v1, v2, v3, rfl⟩ := four_of hl
  obtain ⟨y0, h0⟩ := fld hlen hg 0 _ rfl 49 0 3 rfl rfl c49
  obtain ⟨y1, h1⟩ := fld hlen hg 1 _ rfl 3 3 1 rfl rfl c3
  obtain ⟨Ar, Ac, cr, cc, rs, es, ra, ha, hA, hB⟩ := trod_case h0
  obtain ⟨m, hc⟩ := trod_i64 h1
  simp only [List.drop_zero, List.take_succ_cons, List.take_zero, List.drop_succ_cons, List.cons.injEq, and_true] at ha hc
  obtain ⟨h2, h3, h4⟩ := ha
  subst h2 h3 h4 hc
  exact ⟨Ar, Ac, cr, cc, rs, es, ra, m, rfl, hA, hB⟩
set_option maxRecDepth 100000 in
theorem moment_open {r : Reach} {b0 : Nat} {v : Value} {d : DataW X} {p : List MemPlace} (hval : Value.okWide Try.prog w r b0 62 v) (h : DataW.Trod enc Try.prog w base spare held 62 v d p) :
    ∃ (Ar Ac : Option Addr) (cr cc : Nat) (rs es : List Int) (ra m : Int), v = .agg #[.slice Ar rs.length cr, .slice Ac es.length cc, .int .i64 ra, .int .i64 m] ∧ Kd.C (Kd.int .i64) w Ar rs.length rs ∧ Kd.C (Kd.int .i64) w Ac es.length es := by
  obtain ⟨cs, rfl, hsz⟩ := okWide_struct Try.underlying62 hval
  obtain ⟨n, hn⟩ := h
  obtain ⟨Ar, Ac, cr, cc, rs, es, ra, m, hH, hA, hB⟩ := trod_moment hn
  obtain ⟨l⟩ := cs
  obtain rfl : l = _ := hH
  exact ⟨Ar, Ac, cr, cc, rs, es, ra, m, rfl, hA, hB⟩
end
end Go.Proofs.Ythdbkhdiaehblaa.T
