/- Texts of this claim, put together: N6, N7, A9, A10, A11, N8, A12, N9, A13. -/
import Derived.Test.YtiplichdhcmjdaaG2
namespace Go.Proofs.Ytiplichdhcmjdaa.T
open Go.RowKit Go.Proofs.YtiplichdhcmjdaaW.PrintWords Go.Proofs.YtiplichdhcmjdaaW.PrintMore
open Go.Proofs.Ytiplichdhcmjdaa.P
set_option linter.unusedVariables false
set_option linter.unusedSimpArgs false
/-- A header of a slice. -/
structure Hd where
  A : Option Addr
  n : Nat
  c : Nat
def Hd.v (h : Hd) : Value := .slice h.A h.n h.c
def kH : Kd Hd := Kd.scalar Hd.v (fun _ => rfl)
/-- A map. -/
def kG : Kd (Option Nat) := Kd.scalar (fun g => Value.map g) (fun _ => rfl)
theorem sc_at {α : Type} {f : α → Value} {hf : ∀ x, (f x).oneCell' = true} {w : World} {A : Option Addr} {n : Nat} {l : List α} (h : Kd.C (Kd.scalar f hf) w A n l) {i : Nat} {x : α} (hi : l[i]? = some x) : ∃ ad, A = some ad ∧ w.cell? (ad.add (i * 1)) = some (f x) := by
  have hil : i < l.length := (List.getElem?_eq_some_iff.1 hi).1
  have hn := Kd.C_len h
  obtain ⟨ad, c, e, _, hK, hc0⟩ := Kd.C_get h x (i : Int) (by omega) (by omega)
  have hx : l.getD i x = x := by simp [List.getD_eq_getElem?_getD, hi]
  rw [Int.toNat_natCast, hx] at hK
  rw [Int.toNat_natCast] at hc0
  obtain rfl : c = [f x] := hK
  exact ⟨ad, e, hc0 0 _ rfl⟩
theorem rowG_at {W : World} {base : Nat} {A : Option Addr} {n c : Nat} {xs : List (Option Nat)} {i : Nat} {x : Option Nat} (R : Kd.R kG 91 W base (fun _ => True) (.slice A n c) xs) (hi : xs[i]? = some x) :
    ∃ g, A = some ⟨g, 0, none⟩ ∧ base ≤ g ∧ W.cell? ⟨g, i * 1, none⟩ = some (.map x) ∧ W.frozen? ⟨g, i * 1, none⟩ = false ∧ (∃ cells, W.heap[g]? = some (.cells cells 91 (0, 0))) ∧
      (∀ y : Option Nat, ∃ w', w' = W.setCell ⟨g, i * 1, none⟩ (.map y) ∧ Kd.R kG 91 w' base (fun _ => True) (.slice A n c) (xs.set i y) ∧ W.grownBy w' (some g)) := by
  have hil := (List.getElem?_eq_some_iff.1 hi).1
  obtain ⟨g, cap, hv, hb, hl, cells, hc⟩ := Kd.R_form R (by omega)
  have hn := (Kd.R_reads' R).1
  injection hv with hA hn' hc'
  subst hA hc'
  obtain ⟨cs, h1, h2, h3, h4⟩ := Kd.R_elem R none (i : Int) (by omega) (by omega)
  have hx : xs.getD i none = x := by simp [List.getD_eq_getElem?_getD, hi]
  rw [Int.toNat_natCast, hx] at h2
  obtain rfl : cs = [.map x] := h2
  rw [Int.toNat_natCast] at h3 h4
  refine ⟨g, rfl, hb, h3 0 _ rfl, h4 0, ⟨cells, hc⟩, fun y => ⟨_, rfl, ?_⟩⟩
  have := Kd.R_seg R (i : Int) (by omega) (by omega) (seg := [.map y]) (j := 0) h1 (by rw [Int.toNat_natCast]; exact h3) (by show 0 + 1 ≤ 1; decide) (x' := y) (okp := fun _ => False) (show kG.M _ _ _ y ([.map y] : List Value) from rfl) (fun _ hk => hk.elim)
  rw [Int.toNat_natCast] at this
  exact this
theorem map_ne {w : World} {gM g t : Nat} {f : Bl → Option Int} {cs : Array Value} (h : MB w gM f) (hb : w.heap[g]? = some (.cells cs t (0, 0))) : gM ≠ g := by
  obtain ⟨es, clock, l, h1, _⟩ := h
  rintro rfl
  rw [h1] at hb
  cases hb
/-- The choices of the first tills, each a row of our own. -/
structure HC (w0 w : World) (V : Ev) (C : List Hd) : Prop where
  row : ∀ (j : Nat) (h : Hd), C[j]? = some h → h.n = (chs V (ct V j)).length ∧ Kd.R k69 69 w w0.heap.size (fun _ => True) h.v (chs V (ct V j))
/-- The maps of some tills. -/
structure HG (w0 w : World) (G : List (Option Nat)) (F : Nat → Bl → Option Int) : Prop where
  mp : ∀ (j g : Nat), G[j]? = some (some g) → w0.heap.size ≤ g ∧ MB w g (F j)
section
variable {w0 w w' : World} {V : Ev} {C : List Hd} {G : List (Option Nat)} {F : Nat → Bl → Option Int} {row : Option Nat}
theorem HC.below (h : HC w0 w V C) (l : Below w.heap.size w w') : HC w0 w' V C := ⟨fun j x hj => ⟨(h.row j x hj).1, Kd.R_below (h.row j x hj).2 l⟩⟩
theorem HG.below (h : HG w0 w G F) (l : Below w.heap.size w w') : HG w0 w' G F := ⟨fun j g hj => ⟨(h.mp j g hj).1, (h.mp j g hj).2.below l⟩⟩
/-- A block of cells of another type is written. -/
def Oth (w : World) (row : Option Nat) : Prop := ∀ k, row = some k → ∃ cs t, w.heap[k]? = some (.cells cs t (0, 0)) ∧ 69 ≠ t
theorem oth {g t : Nat} {cs : Array Value} (h : w.heap[g]? = some (.cells cs t (0, 0))) (ht : 69 ≠ t) : Oth w (some g) := fun k e => by
  injection e with e
  subst e
  exact ⟨cs, t, h, ht⟩
theorem oth_row {α : Type} {d : Kd α} {e base : Nat} {v : Value} {xs : List α} (h : Kd.R d e w base (fun _ => True) v xs) (ht : 69 ≠ e) : Oth w v.ownBlock := fun k ek => by
  obtain ⟨_, inner, ho, _⟩ := h
  obtain ⟨cells, hc⟩ := own_typed ho k ek
  exact ⟨cells, e, hc, ht⟩
theorem HC.grown (h : HC w0 w V C) (hg : w.grownBy w' row) (p : Oth w row) : HC w0 w' V C := ⟨fun j x hj => by
  refine ⟨(h.row j x hj).1, ?_⟩
  have hR := (h.row j x hj).2
  cases row with
  | none => exact Kd.R_mono (Kd.R_grown (Kd.R_tight rfl hR) hg (fun k _ e => by cases e)) (fun _ _ => trivial)
  | some g =>
    obtain ⟨cs, t, hb, ht⟩ := p g rfl
    exact over_blk hR hb ht rfl hg⟩
theorem HG.grown (h : HG w0 w G F) (hg : w.grownBy w' row) (p : Oth w row) : HG w0 w' G F := ⟨fun j g hj => by
  obtain ⟨h1, h2⟩ := h.mp j g hj
  refine ⟨h1, h2.grown hg (fun e => ?_)⟩
  obtain ⟨cs, t, hb, _⟩ := p g e.symm
  exact map_ne h2 hb rfl⟩
theorem HG.mapped (h : HG w0 w G F) {g0 : Nat} (hg : w.grownBy w' (some g0)) (p : ∀ (j : Nat), G[j]? ≠ some (some g0)) : HG w0 w' G F := ⟨fun j g hj => by
  obtain ⟨h1, h2⟩ := h.mp j g hj
  exact ⟨h1, h2.grown hg (fun e => by injection e with e; subst e; exact p j hj)⟩⟩
theorem HC.mapped (h : HC w0 w V C) {g0 : Nat} {f : Bl → Option Int} (hg : w.grownBy w' (some g0)) (hm : MB w g0 f) : HC w0 w' V C := ⟨fun j x hj => by
  refine ⟨(h.row j x hj).1, ?_⟩
  have hR := (h.row j x hj).2
  refine Kd.R_grown1 hR rfl hg (fun e => ?_)
  obtain ⟨_, inner, ho, _⟩ := hR
  obtain ⟨cells, hc⟩ := own_typed ho g0 e.symm
  exact map_ne hm hc rfl⟩
theorem HG.lt (h : HG w0 w G F) {j g : Nat} (hj : G[j]? = some (some g)) : g < w.heap.size := (h.mp j g hj).2.lt
theorem HG.push (h : HG w0 w G F) {g : Nat} {f : Bl → Option Int} (hm : MB w g f) (hb : w0.heap.size ≤ g) : HG w0 w (G ++ [some g]) (fun j => if j < G.length then F j else f) := ⟨fun j k hj => by
  by_cases q : j < G.length
  · rw [List.getElem?_append_left q] at hj
    simp only [q, if_true]
    exact h.mp j k hj
  · rw [List.getElem?_append_right (by omega)] at hj
    have : j - G.length = 0 := by
      by_cases e : j - G.length = 0
      · exact e
      · rw [List.getElem?_eq_none (by simp; omega)] at hj; cases hj
    rw [this] at hj
    obtain rfl : g = k := by simpa using hj
    simp only [q, if_false]
    exact ⟨hb, hm⟩⟩
theorem HC.push (h : HC w0 w V C) {x : Hd} {i : Nat} (hi : C.length = i) (hn : x.n = (chs V (ct V i)).length) (hR : Kd.R k69 69 w w0.heap.size (fun _ => True) x.v (chs V (ct V i))) : HC w0 w V (C ++ [x]) := ⟨fun j y hj => by
  by_cases q : j < C.length
  · rw [List.getElem?_append_left q] at hj
    exact h.row j y hj
  · rw [List.getElem?_append_right (by omega)] at hj
    have e : j - C.length = 0 := by
      by_cases e : j - C.length = 0
      · exact e
      · rw [List.getElem?_eq_none (by simp; omega)] at hj; cases hj
    rw [e] at hj
    obtain rfl : x = y := by simpa using hj
    obtain rfl : j = i := by omega
    exact ⟨hn, hR⟩⟩
theorem HG.at_ (h : HG w0 w G F) (hs : ∀ x ∈ G, x ≠ none) {j : Nat} (hj : j < G.length) : ∃ g, G[j]? = some (some g) ∧ w0.heap.size ≤ g ∧ MB w g (F j) := by
  obtain ⟨x, hx⟩ := get_ex hj
  cases x with
  | none => exact absurd rfl (hs none (List.mem_of_getElem? hx))
  | some g => exact ⟨g, hx, h.mp j g hx⟩
end
/-- While a map is ranged over and another one is filled; wN is the world before the other one was made. -/
structure Lp (wN w : World) (gN r gb : Nat) (fb f : Bl → Option Int) (S : List Bl) (n : Nat) : Prop where
  k : Below wN.heap.size wN w
  it : E.MfI bv evI w r gb fb S n
  mp : MB w gN f
  hr : wN.heap.size ≤ r
  hN : wN.heap.size ≤ gN
  hb : gb < wN.heap.size
theorem Lp.below {wN w w' : World} {gN r gb : Nat} {fb f : Bl → Option Int} {S : List Bl} {n : Nat} (h : Lp wN w gN r gb fb f S n) (l : Below w.heap.size w w') : Lp wN w' gN r gb fb f S n := ⟨below_step h.k l, h.it.below l, h.mp.below l, h.hr, h.hN, h.hb⟩
theorem Lp.ne {wN w : World} {gN r gb : Nat} {fb f : Bl → Option Int} {S : List Bl} {n : Nat} (h : Lp wN w gN r gb fb f S n) : r ≠ gN := by
  obtain ⟨_, _, _, q⟩ := h.it.it
  obtain ⟨es, clock, l, h1, _⟩ := h.mp
  rintro rfl
  rw [q] at h1
  cases h1
theorem Lp.grown {wN w w' : World} {gN r gb g : Nat} {fb f : Bl → Option Int} {S : List Bl} {n : Nat} (h : Lp wN w gN r gb fb f S n) (hg : w.grownBy w' (some g)) (p : wN.heap.size ≤ g ∧ ∃ cs t, w.heap[g]? = some (.cells cs t (0, 0))) : Lp wN w' gN r gb fb f S n := by
  obtain ⟨hs, cs, t, hc⟩ := p
  have h1 : g ≠ r := by
    obtain ⟨_, _, _, q⟩ := h.it.it
    rintro rfl
    rw [q] at hc
    cases hc
  refine ⟨E.below_own h.k hs hg, h.it.grown hg (fun e => ?_) (fun e => ?_), h.mp.grown hg (fun e => ?_), h.hr, h.hN, h.hb⟩
  · injection e with e
    have := h.hb
    omega
  · injection e with e
    exact h1 e.symm
  · injection e with e
    exact map_ne h.mp hc e
theorem Lp.filled {wN w w' : World} {gN r gb : Nat} {fb f f' : Bl → Option Int} {S : List Bl} {n : Nat} (h : Lp wN w gN r gb fb f S n) (hg : w.grownBy w' (some gN)) (hm : MB w' gN f') : Lp wN w' gN r gb fb f' S n :=
  ⟨E.below_own h.k h.hN hg, h.it.grown hg (fun e => by injection e with e; have := h.hb; have := h.hN; omega) (fun e => by injection e with e; exact h.ne e), hm, h.hr, h.hN, h.hb⟩
theorem Lp.stepped {wN w w' : World} {gN r gb : Nat} {fb f : Bl → Option Int} {S S' : List Bl} {n n' : Nat} (h : Lp wN w gN r gb fb f S n) (hg : w.grownBy w' (some r)) (it : E.MfI bv evI w' r gb fb S' n') : Lp wN w' gN r gb fb f S' n' :=
  ⟨E.below_own h.k h.hr hg, it, h.mp.grown hg (fun e => by injection e with e; exact h.ne e.symm), h.hr, h.hN, h.hb⟩
end Go.Proofs.Ytiplichdhcmjdaa.T
namespace Go.Proofs.Ytiplichdhcmjdaa.T
open Go.RowKit Go.Proofs.YtiplichdhcmjdaaW.PrintWords Go.Proofs.YtiplichdhcmjdaaW.PrintMore
open Go.Proofs.Ytiplichdhcmjdaa.P
set_option linter.unusedVariables false
set_option linter.unusedSimpArgs false
structure Lq (wN w : World) (gN r gb : Nat) (fb f : Bl → Option Int) (S : List Bl) (n : Nat) : Prop where
  k : wN.grownBy w (some gN)
  it : E.MfI bv evI w r gb fb S n
  mp : MB w gN f
  hr : wN.heap.size ≤ r
  hN : gN < wN.heap.size
  hb : gb < wN.heap.size
  ne : gb ≠ gN
section
variable {wN w w' : World} {gN r gb : Nat} {fb f : Bl → Option Int} {S : List Bl} {n : Nat}
theorem Lq.below (h : Lq wN w gN r gb fb f S n) (l : Below w.heap.size w w') : Lq wN w' gN r gb fb f S n := ⟨h.k.trans (E.gbB l), h.it.below l, h.mp.below l, h.hr, h.hN, h.hb, h.ne⟩
theorem Lq.grown {g : Nat} (h : Lq wN w gN r gb fb f S n) (hg : w.grownBy w' (some g)) (p : wN.heap.size ≤ g ∧ ∃ cs t, w.heap[g]? = some (.cells cs t (0, 0))) : Lq wN w' gN r gb fb f S n := by
  obtain ⟨hs, cs, t, hc⟩ := p
  have h1 : g ≠ r := by
    obtain ⟨_, _, _, q⟩ := h.it.it
    rintro rfl
    rw [q] at hc
    cases hc
  refine ⟨E.gb_own h.k hs hg, h.it.grown hg (fun e => ?_) (fun e => ?_), h.mp.grown hg (fun e => ?_), h.hr, h.hN, h.hb, h.ne⟩
  · injection e with e
    have := h.hb
    omega
  · injection e with e
    exact h1 e.symm
  · injection e with e
    exact map_ne h.mp hc e
theorem Lq.filled {f' : Bl → Option Int} (h : Lq wN w gN r gb fb f S n) (hg : w.grownBy w' (some gN)) (hm : MB w' gN f') : Lq wN w' gN r gb fb f' S n :=
  ⟨h.k.trans hg, h.it.grown hg (fun e => by injection e with e; exact h.ne e) (fun e => by injection e with e; have := h.hr; have := h.hN; omega), hm, h.hr, h.hN, h.hb, h.ne⟩
theorem Lq.stepped {S' : List Bl} {n' : Nat} (h : Lq wN w gN r gb fb f S n) (hg : w.grownBy w' (some r)) (it : E.MfI bv evI w' r gb fb S' n') : Lq wN w' gN r gb fb f S' n' :=
  ⟨E.gb_own h.k h.hr hg, it, h.mp.grown hg (fun e => by injection e with e; have := h.hr; have := h.hN; omega), h.hr, h.hN, h.hb, h.ne⟩
end
theorem HG.set {w0 w : World} {D : List (Option Nat)} {F : Nat → Bl → Option Int} {i g : Nat} {f : Bl → Option Int} (h : HG w0 w D F) (hm : MB w g f) (hb : w0.heap.size ≤ g) (hi : i < D.length) : HG w0 w (D.set i (some g)) (fun j => if j = i then f else F j) := ⟨fun j k hj => by
  by_cases q : j = i
  · subst q
    rw [List.getElem?_set_self hi] at hj
    obtain rfl : g = k := by simpa using hj
    simp only [if_true]
    exact ⟨hb, hm⟩
  · rw [List.getElem?_set_ne (Ne.symm q)] at hj
    simp only [q, if_false]
    exact h.mp j k hj⟩
/-- The rounds over the choices, for a ticket that is there: with a rest behind it, and with none. -/
theorem na_yes {f fa : Bl → Option Int} {l : List S69} {k : Nat} {o : S69} {x : Bl} {r : Int} {q : Bl → Int → Prop} (ho : l[k]? = some o) (hr : fa (x.add o.b) = some r) (h : ∀ c, Mn (fun y => q c y ∨ (c = x ∧ ∃ o ∈ l.take k, ∃ m, fa (x.add o.b) = some m ∧ y = m + o.f3)) (f c)) (tm : ∀ z, z ∈ l.take (k + 1) ↔ z ∈ l.take k ∨ z = o) : ∀ c, Mn (fun y => q c y ∨ (c = x ∧ ∃ o ∈ l.take (k + 1), ∃ m, fa (x.add o.b) = some m ∧ y = m + o.f3)) (lst f x (r + o.f3) c) := fun c => (lst_mn h c).congr fun y => by
  constructor
  · rintro ((a | ⟨a, o2, b, d⟩) | ⟨rfl, rfl⟩)
    · exact .inl a
    · exact .inr ⟨a, o2, (tm o2).mpr (.inl b), d⟩
    · exact .inr ⟨rfl, o, (tm o).mpr (.inr rfl), r, hr, rfl⟩
  · rintro (a | ⟨a, o2, b, m, d, e⟩)
    · exact .inl (.inl a)
    · rcases (tm o2).mp b with b | rfl
      · exact .inl (.inr ⟨a, o2, b, m, d, e⟩)
      · rw [hr] at d
        cases d
        exact .inr ⟨a, e⟩
theorem na_no {f fa : Bl → Option Int} {l : List S69} {k : Nat} {o : S69} {x : Bl} {q : Bl → Int → Prop} (hr : fa (x.add o.b) = none) (h : ∀ c, Mn (fun y => q c y ∨ (c = x ∧ ∃ o ∈ l.take k, ∃ m, fa (x.add o.b) = some m ∧ y = m + o.f3)) (f c)) (tm : ∀ z, z ∈ l.take (k + 1) ↔ z ∈ l.take k ∨ z = o) : ∀ c, Mn (fun y => q c y ∨ (c = x ∧ ∃ o ∈ l.take (k + 1), ∃ m, fa (x.add o.b) = some m ∧ y = m + o.f3)) (f c) := fun c => (h c).congr fun y => by
  constructor
  · rintro (a | ⟨a, o2, b, d⟩)
    · exact .inl a
    · exact .inr ⟨a, o2, (tm o2).mpr (.inl b), d⟩
  · rintro (a | ⟨a, o2, b, m, d, e⟩)
    · exact .inl a
    · rcases (tm o2).mp b with b | rfl
      · exact .inr ⟨a, o2, b, m, d, e⟩
      · rw [hr] at d
        cases d
theorem na_more {f fa : Bl → Option Int} {S : List Bl} {x : Bl} {l : List S69} {k : Nat} (hk : l.length ≤ k) (h : ∀ c, Mn (fun y => (c ∈ S ∧ ∃ o ∈ l, ∃ m, fa (c.add o.b) = some m ∧ y = m + o.f3) ∨ (c = x ∧ ∃ o ∈ l.take k, ∃ m, fa (x.add o.b) = some m ∧ y = m + o.f3)) (f c)) : ∀ c, Mn (fun y => c ∈ S ++ [x] ∧ ∃ o ∈ l, ∃ m, fa (c.add o.b) = some m ∧ y = m + o.f3) (f c) := fun c => (h c).congr fun y => by
  rw [List.take_of_length_le hk]
  constructor
  · rintro (⟨a, r⟩ | ⟨rfl, r⟩)
    · exact ⟨List.mem_append_left _ a, r⟩
    · exact ⟨by simp, r⟩
  · rintro ⟨a, r⟩
    rcases List.mem_append.mp a with a | a
    · exact .inl ⟨a, r⟩
    · rw [List.mem_singleton] at a
      subst a
      exact .inr ⟨rfl, r⟩
end Go.Proofs.Ytiplichdhcmjdaa.T
namespace Go.Proofs.Ytiplichdhcmjdaa.T
open Go.RowKit Go.Proofs.YtiplichdhcmjdaaW.PrintWords Go.Proofs.YtiplichdhcmjdaaW.PrintMore
open Go.Proofs.Ytiplichdhcmjdaa.P
set_option linter.unusedVariables false
set_option linter.unusedSimpArgs false

abbrev cells89 (V : Ev) (m : Ea) (vc vb va : Value) : List Value := [.slice m.A V.ps.length m.a, .slice m.B V.qs.length m.b, .slice m.C V.ts.length m.c, .slice m.D V.cs.length m.d, .int .i64 (bl V.qs).f0, .int .i64 (bl V.qs).f1, .int .i64 (bl V.qs).f2, vc, vb, va]
theorem mid89 {w : World} {g : Nat} {V : Ev} {m : Ea} {vc vb va : Value} (b : w.heap[g]? = some (.cells (cells89 V m vc vb va).toArray 89 (0, 0))) : ∀ j v, (bc (bl V.qs))[j]? = some v → w.cell? ((⟨g, 4, none⟩ : Addr).add j) = some v := by
  intro j v hv
  rw [Addr.add_mid, blk_cell b]
  rcases j with _ | _ | _ | j <;> first | exact hv | (simp [bc] at hv)
theorem mid69 {w : World} {g : Nat} {o : S69} (b : w.heap[g]? = some (.cells #[.int .i64 o.f0, .int .i64 o.f1, .int .i64 o.f2, .int .i64 o.f3] 69 (0, 0))) : ∀ j v, (bc o.b)[j]? = some v → w.cell? ((⟨g, 0, none⟩ : Addr).add j) = some v := by
  intro j v hv
  rw [Addr.add_mid, blk_cell b]
  rcases j with _ | _ | _ | j <;> first | exact hv | (simp [bc] at hv)
set_option maxRecDepth 100000 in
theorem build89 (V : Ev) (m : Ea) (A : Option Addr) (n c : Nat) (W : World) : (Instr.build 89 #[(0, hv V m), (1, bv (bl V.qs)), (3, .slice A n c)]).run Try.prog W = .ok (.agg (cells89 V m (.slice none 0 0) (.slice A n c) (.slice none 0 0)).toArray) W := by
  have hu3 := Try.underlying3
  have hu22 := Try.underlying22
  have hu23 := Try.underlying23
  have hu25 := Try.underlying25
  have hu59 := Try.underlying59
  have hu86 := Try.underlying86
  have hu87 := Try.underlying87
  have hu89 := Try.underlying89
  unfold bv
  go_simp
set_option maxRecDepth 100000 in
theorem lit87 (g : Nat) (W : World) : (Instr.buildSlice 87 1 #[(0, .map (some g))]).run Try.prog W = .ok (.slice (some ⟨W.heap.size, 0, none⟩) 1 1) (W.alloc (.cells #[.map (some g)] 91 (0, 0))) := by
  have hu87 := Try.underlying87
  go_simp
set_option maxRecDepth 100000 in
theorem lit86 (A : Option Addr) (n c : Nat) (W : World) : (Instr.buildSlice 86 1 #[(0, .slice A n c)]).run Try.prog W = .ok (.slice (some ⟨W.heap.size, 0, none⟩) 1 1) (W.alloc (.cells #[.slice A n c] 72 (0, 0))) := by
  have hu86 := Try.underlying86
  go_simp
theorem reps_map (W : World) (base g : Nat) : Reps (kG.M W base (fun _ => False)) kG.sz [some g] [.map (some g)] := by
  have := Reps.snoc (Reps.none (kG.M W base fun _ => False) kG.sz) (p := some g) (c := [.map (some g)]) (show kG.M _ _ _ _ _ from rfl) rfl
  simpa using this
/-- What the tickets of some tills together can be. -/
theorem isB_small {V : Ev} (ok : VOk V) {i : Nat} {f : Bl → Option Int} (h : IsB V i f) {x : Bl} {v : Int} (hx : f x = some v) : SmallB x 80 ∧ 0 ≤ v ∧ v ≤ 2 * i := by
  have hM := h x
  rw [hx] at hM
  obtain ⟨⟨hf, t, hl, hw, hs, hv⟩, _⟩ := hM
  have hn := Ws_nonneg hw
  rw [hs] at hn
  have hq := small_bl ok.q (by decide)
  have h01 := flT_01 V t 0
  refine ⟨?_, by omega, by omega⟩
  intro j hj
  have hqj := hq j hj
  have e0 : x.get 0 = x.f0 := rfl
  have e1 : x.get 1 = x.f1 := rfl
  have e2 : x.get 2 = x.f2 := rfl
  have q0 : (bl V.qs).get 0 = (bl V.qs).f0 := rfl
  have q1 : (bl V.qs).get 1 = (bl V.qs).f1 := rfl
  have q2 : (bl V.qs).get 2 = (bl V.qs).f2 := rfl
  obtain ⟨f0, f1, f2⟩ := hf
  rcases j with _ | _ | _ | j
  · rw [q0] at hqj; rw [e0]; omega
  · rw [show 0 + 1 = 1 from rfl] at hqj ⊢; rw [q1] at hqj; rw [e1]; omega
  · rw [show 0 + 1 + 1 = 2 from rfl] at hqj ⊢; rw [q2] at hqj; rw [e2]; omega
  · omega
theorem way_small {n : Nat} {r : Int} {b : Bl} (h : Way n r b) (hr : r ≤ 20) : SmallB b 20 := by
  obtain ⟨h0, h1, h2, _, _, hs⟩ := h
  unfold Bl.sum at hs
  have e0 : b.get 0 = b.f0 := rfl
  have e1 : b.get 1 = b.f1 := rfl
  have e2 : b.get 2 = b.f2 := rfl
  intro j hj
  rcases j with _ | _ | _ | j
  · rw [e0]; omega
  · rw [show 0 + 1 = 1 from rfl, e1]; omega
  · rw [show 0 + 1 + 1 = 2 from rfl, e2]; omega
  · omega
theorem chs_len {V : Ev} {c : S40} (ok : VOk V) (hc : COk V.ps.length c) : (chs V c).length ≤ 441 := by
  have h1 := ok.n1
  have h3 := ok.n3
  have h8 := hc.2.2.2.2.2.2.2
  have h := chR_len V c V.ps.length (V.ps.length - 1) Bl.z (rl c).toNat (by omega)
  have h2 : 21 ^ (V.ps.length - 1) ≤ 21 ^ 2 := Nat.pow_le_pow_right (by decide) (by omega)
  unfold chs
  omega
theorem take_more {α : Type} {l : List α} {k : Nat} {o x : α} (ho : l[k]? = some o) : x ∈ l.take (k + 1) ↔ x ∈ l.take k ∨ x = o := by
  have hl := (List.getElem?_eq_some_iff.1 ho).1
  rw [List.take_add_one, ho]
  simp
theorem nk_yes {f : Bl → Option Int} {s : Bl} {l : List S69} {k : Nat} {o : S69} {x : Bl} {v : Int} {q : Bl → Int → Prop} (ho : l[k]? = some o) (hf : (x.add o.b).Fits s) (h : ∀ c, Mn (fun y => q c y ∨ (c.Fits s ∧ ∃ o ∈ l.take k, x.add o.b = c ∧ y = v + o.f3)) (f c)) : ∀ c, Mn (fun y => q c y ∨ (c.Fits s ∧ ∃ o ∈ l.take (k + 1), x.add o.b = c ∧ y = v + o.f3)) (lst f (x.add o.b) (v + o.f3) c) := fun c => (lst_mn h c).congr fun y => by
  constructor
  · rintro ((a | ⟨a, o2, b, d⟩) | ⟨rfl, rfl⟩)
    · exact .inl a
    · exact .inr ⟨a, o2, (take_more ho).mpr (.inl b), d⟩
    · exact .inr ⟨hf, o, (take_more ho).mpr (.inr rfl), rfl, rfl⟩
  · rintro (a | ⟨a, o2, b, d, e⟩)
    · exact .inl (.inl a)
    · rcases (take_more ho).mp b with b | rfl
      · exact .inl (.inr ⟨a, o2, b, d, e⟩)
      · exact .inr ⟨d.symm, e⟩
theorem nk_no {f : Bl → Option Int} {s : Bl} {l : List S69} {k : Nat} {o : S69} {x : Bl} {v : Int} {q : Bl → Int → Prop} (ho : l[k]? = some o) (hf : ¬ (x.add o.b).Fits s) (h : ∀ c, Mn (fun y => q c y ∨ (c.Fits s ∧ ∃ o ∈ l.take k, x.add o.b = c ∧ y = v + o.f3)) (f c)) : ∀ c, Mn (fun y => q c y ∨ (c.Fits s ∧ ∃ o ∈ l.take (k + 1), x.add o.b = c ∧ y = v + o.f3)) (f c) := fun c => (h c).congr fun y => by
  constructor
  · rintro (a | ⟨a, o2, b, d⟩)
    · exact .inl a
    · exact .inr ⟨a, o2, (take_more ho).mpr (.inl b), d⟩
  · rintro (a | ⟨a, o2, b, d, e⟩)
    · exact .inl a
    · rcases (take_more ho).mp b with b | rfl
      · exact .inr ⟨a, o2, b, d, e⟩
      · rw [d] at hf; exact absurd a hf
theorem nx_more {F f : Bl → Option Int} {s : Bl} {S : List Bl} {x : Bl} {v : Int} {l : List S69} {k : Nat} (hk : l.length ≤ k) (hx : F x = some v) (h : ∀ c, Mn (fun y => (c.Fits s ∧ ∃ b ∈ S, ∃ m0, F b = some m0 ∧ ∃ o ∈ l, b.add o.b = c ∧ y = m0 + o.f3) ∨ (c.Fits s ∧ ∃ o ∈ l.take k, x.add o.b = c ∧ y = v + o.f3)) (f c)) : ∀ c, Mn (fun y => c.Fits s ∧ ∃ b ∈ S ++ [x], ∃ m0, F b = some m0 ∧ ∃ o ∈ l, b.add o.b = c ∧ y = m0 + o.f3) (f c) := fun c => (h c).congr fun y => by
  rw [List.take_of_length_le hk]
  constructor
  · rintro (⟨a, b, hb, r⟩ | ⟨a, r⟩)
    · exact ⟨a, b, List.mem_append_left _ hb, r⟩
    · exact ⟨a, x, by simp, v, hx, r⟩
  · rintro ⟨a, b, hb, m0, hm, r⟩
    rcases List.mem_append.mp hb with hb | hb
    · exact .inl ⟨a, b, hb, m0, hm, r⟩
    · rw [List.mem_singleton] at hb
      subst hb
      rw [hx] at hm
      cases hm
      exact .inr ⟨a, r⟩
/-- A row of structs written out, in a block of ours. -/
theorem flat_get {α : Type} (enc : α → List Value) (sz : Nat) (hsz : ∀ x, (enc x).length = sz) : ∀ (l : List α) (j i : Nat) (p : α), l[j]? = some p → i < sz → (l.flatMap enc)[j * sz + i]? = (enc p)[i]?
  | [], j, i, p, h, _ => by simp at h
  | x :: l, 0, i, p, h, hi => by
    obtain rfl : x = p := by simpa using h
    rw [List.flatMap_cons, Nat.zero_mul, Nat.zero_add, List.getElem?_append_left (by rw [hsz]; exact hi)]
  | x :: l, j + 1, i, p, h, hi => by
    rw [List.flatMap_cons, List.getElem?_append_right (by rw [hsz, Nat.add_mul]; omega), hsz, show (j + 1) * sz + i - sz = j * sz + i by rw [Nat.add_mul]; omega]
    exact flat_get enc sz hsz l j i p (by simpa using h) hi
theorem C_flat {α : Type} (d : Kd α) (enc : α → List Value) (hsz : ∀ x, (enc x).length = d.sz) (hK : ∀ (w : World) x, d.K w x (enc x)) {w : World} {g e : Nat} (l : List α) (hl : l.length ≤ 1000000) (hb : w.heap[g]? = some (.cells (l.flatMap enc).toArray e (0, 0))) : Kd.C d w (some ⟨g, 0, none⟩) l.length l := by
  refine ⟨rfl, by omega, fun _ => ⟨_, rfl, ?_⟩⟩
  intro j p hj
  refine ⟨enc p, hsz p, hK w p, fun i u hu => ?_⟩
  have hi : i < d.sz := by rw [← hsz p]; exact (List.getElem?_eq_some_iff.1 hu).1
  rw [Addr.add_mid, Nat.zero_add, blk_cell hb]
  rw [List.getElem?_toArray, flat_get enc d.sz hsz l j i p hj hi]
  exact hu
theorem C_hd {w : World} {g e : Nat} {A : Option Addr} {n c : Nat} (hb : w.heap[g]? = some (.cells #[.slice A n c] e (0, 0))) : Kd.C kH w (some ⟨g, 0, none⟩) 1 [⟨A, n, c⟩] := C_flat kH (fun h => [h.v]) (fun _ => rfl) (fun _ _ => rfl) [⟨A, n, c⟩] (by simp) hb
theorem C_mp {w : World} {g e : Nat} {k : Option Nat} (hb : w.heap[g]? = some (.cells #[.map k] e (0, 0))) : Kd.C kG w (some ⟨g, 0, none⟩) 1 [k] := C_flat kG (fun h => [.map h]) (fun _ => rfl) (fun _ _ => rfl) [k] (by simp) hb
theorem info72b : (Try.prog.info? 72).map (fun i => (i.zero, i.size, i.bytes)) = some (some (.slice none 0 0), 1, 24) := by kernel_rfl
theorem info91b : (Try.prog.info? 91).map (fun i => (i.zero, i.size, i.bytes)) = some (some (.map none), 1, 8) := by kernel_rfl
theorem map_row {α : Type} {d : Kd α} {e base gM : Nat} {w : World} {v : Value} {xs : List α} {f : Bl → Option Int} (h : Kd.R d e w base (fun _ => True) v xs) (hm : MB w gM f) : some gM ≠ v.ownBlock := fun ek => by
  obtain ⟨_, inner, ho, _⟩ := h
  obtain ⟨cells, hc⟩ := own_typed ho gM ek.symm
  exact map_ne hm hc rfl
/-- An evening that is counted, as it is read. -/
structure Op (w : World) (V : Ev) (m : Ea) (g : Nat) (C : List Hd) (G D : List (Option Nat)) (Ac Ab Aa : Option Addr) (cc cb ca : Nat) (F Fa : Nat → Bl → Option Int) : Prop where
  b4 : w.heap[g]? = some (.cells (cells89 V m (.slice Ac C.length cc) (.slice Ab G.length cb) (.slice Aa D.length ca)).toArray 89 (0, 0))
  rc : Kd.C kH w Ac C.length C
  rb : Kd.C kG w Ab G.length G
  ra : Kd.C kG w Aa D.length D
  lc : C.length = V.cs.length
  lb : G.length = V.cs.length + 1
  la : D.length = V.cs.length + 1
  hc : ∀ (j : Nat) (h : Hd), C[j]? = some h → h.n = (chs V (ct V j)).length ∧ Kd.C k69 w h.A h.n (chs V (ct V j))
  hb : ∀ j, j ≤ V.cs.length → ∃ k, G[j]? = some (some k) ∧ MB w k (F j) ∧ IsB V j (F j)
  ha : ∀ j, j ≤ V.cs.length → ∃ k, D[j]? = some (some k) ∧ MB w k (Fa j) ∧ IsA V j (Fa j)
theorem Op.below {w w' : World} {V : Ev} {m : Ea} {g : Nat} {C : List Hd} {G D : List (Option Nat)} {Ac Ab Aa : Option Addr} {cc cb ca : Nat} {F Fa : Nat → Bl → Option Int} (h : Op w V m g C G D Ac Ab Aa cc cb ca F Fa) (l : Below w.heap.size w w') : Op w' V m g C G D Ac Ab Aa cc cb ca F Fa :=
  ⟨blk_below h.b4 l, Kd.C_below h.rc l, Kd.C_below h.rb l, Kd.C_below h.ra l, h.lc, h.lb, h.la, fun j x hj => ⟨(h.hc j x hj).1, Kd.C_below (h.hc j x hj).2 l⟩, fun j hj => by
    obtain ⟨k, q1, q2, q3⟩ := h.hb j hj
    exact ⟨k, q1, q2.below l, q3⟩, fun j hj => by
    obtain ⟨k, q1, q2, q3⟩ := h.ha j hj
    exact ⟨k, q1, q2.below l, q3⟩⟩
/-- What open returns. -/
def OpenR (w : World) (V : Ev) (m : Ea) (p : Value) (E : Int) : Prop := (¬ VOk V ∧ p = .pointer none ∧ E = 100) ∨ (VOk V ∧ (∀ t, ¬ Truth V t) ∧ p = .pointer none ∧ E = 3) ∨ (VOk V ∧ E = 0 ∧ ∃ g C G D Ac Ab Aa cc cb ca F Fa, p = .pointer (some ⟨g, 0, none⟩) ∧ F V.cs.length (bl V.qs) ≠ none ∧ Op w V m g C G D Ac Ab Aa cc cb ca F Fa)
theorem isB_reach {V : Ev} {i : Nat} {f : Bl → Option Int} (h : IsB V i f) {x wb : Bl} {v : Int} (hx : f x = some v) (hw : Way V.ps.length (rl (ct V i)) wb) : ∃ t, t.length = i + 1 ∧ Ws V 0 t ∧ sumT t = x.add wb := by
  have hM := h x
  rw [hx] at hM
  obtain ⟨⟨_, t, hl, ht, hs, _⟩, _⟩ := hM
  exact ⟨t ++ [wb], by simp [hl], (Ws_append V t [wb] 0).mpr ⟨ht, ⟨by rw [Nat.zero_add, hl]; exact hw, trivial⟩⟩, by rw [sumT_append, hs, sumT, sumT, Bl.add_z]⟩
theorem isA_small {V : Ev} {i : Nat} {f : Bl → Option Int} (h : IsA V i f) {b : Bl} {r : Int} (hb : ∃ t, t.length = i ∧ Ws V 0 t ∧ sumT t = b) (hr : f b = some r) : 0 ≤ r ∧ r ≤ 2 * V.cs.length := by
  have hM := h b hb
  rw [hr] at hM
  obtain ⟨⟨t, hl, _, _, hv⟩, _⟩ := hM
  have := flT_01 V t i
  omega
theorem d0_hg {w0 w : World} {n g : Nat} {f : Bl → Option Int} (hm : MB w g f) (hb : w0.heap.size ≤ g) : HG w0 w ((List.replicate (n + 1) none).set n (some g)) (fun _ => f) := ⟨fun j k hj => by
  by_cases e : j = n
  · subst e
    rw [List.getElem?_set_self (by simp)] at hj
    obtain rfl : g = k := by simpa using hj
    exact ⟨hb, hm⟩
  · rw [List.getElem?_set_ne (Ne.symm e)] at hj
    have := List.mem_of_getElem? hj
    simp at this⟩
theorem d0_is {V : Ev} {g k : Nat} (q1 : V.cs.length ≤ k) (q2 : k ≤ V.cs.length) : ∃ g', ((List.replicate (V.cs.length + 1) (none : Option Nat)).set V.cs.length (some g))[k]? = some (some g') ∧ IsA V k (E.upd (fun _ => none) (bl V.qs) 0) := by
  obtain rfl : k = V.cs.length := by omega
  exact ⟨g, List.getElem?_set_self (by simp), IsA_last V⟩
theorem d0_none {n g k : Nat} (q : k < n) : ((List.replicate (n + 1) (none : Option Nat)).set n (some g))[k]? = some none := by
  rw [List.getElem?_set_ne (by omega), List.getElem?_replicate]
  simp
  omega
set_option maxRecDepth 100000 in
set_option maxHeartbeats 8000000 in

theorem open_calls (V : Ev) (m : Ea) (w : World) (hV : EvM w V m) (hs : Sz V) :
    Calls Try.prog 49 #[hv V m] w fun e w' => ∃ p E, e = .returned (.tuple #[p, .int .i64 E]) ∧ OpenR w' V m p E ∧ Below w.heap.size w w' := by
  have hsc := hs.c
  have hu3 := Try.underlying3
  have hu22 := Try.underlying22
  have hu23 := Try.underlying23
  have hu25 := Try.underlying25
  have hu40 := Try.underlying40
  have hu59 := Try.underlying59
  have hu69 := Try.underlying69
  have hu72 := Try.underlying72
  have hu86 := Try.underlying86
  have hu87 := Try.underlying87
  have hu89 := Try.underlying89
  have hu91 := Try.underlying91
  obtain ⟨z91, o91⟩ := info_some info91s (by decide)
  obtain ⟨z3, o3⟩ := info_some info3s (by decide)
  obtain ⟨z22, o22⟩ := info_some info22s (by decide)
  obtain ⟨z23, o23⟩ := info_some info23s (by decide)
  obtain ⟨z25, o25⟩ := info_some info25s (by decide)
  obtain ⟨z40, o40⟩ := info_some info40s (by decide)
  obtain ⟨z59, o59⟩ := info_some info59s (by decide)
  obtain ⟨z69, o69⟩ := info_some info69s (by decide)
  obtain ⟨z72, o72⟩ := info_some info72s (by decide)
  obtain ⟨z86, o86⟩ := info_some info86s (by decide)
  obtain ⟨z87, o87⟩ := info_some info87s (by decide)
  refine E.enter (N := 213) Try.func49 rfl Try.ntmps49 (args := [hv V m]) (by simp) ?_
  have L := Below.refl w.heap.size w
  refine E.CG.seq ?_
  refine E.CG.list ?_
  refine E.GL.st rfl rfl rfl (E.ST.box rfl rfl fun g1 w1 e1 b1 l1 => ?_)
  have h1_L : w.heap.size ≤ g1 := by rw [e1]; exact L.size
  replace L := below_step L l1
  refine E.GL.run rfl rfl rfl (E.Runs.assign rfl rfl) ?_
  refine E.GL.run rfl rfl rfl (E.Runs.assign rfl rfl) ?_
  refine E.GL.done ?_
  refine E.QG.code ?_
  refine E.CG.seq ?_
  refine E.CG.seq ?_
  refine E.CG.list ?_
  refine E.GL.run rfl rfl rfl (E.Runs.loads (cs := [.slice m.A V.ps.length m.a, .slice m.B V.qs.length m.b, .slice m.C V.ts.length m.c, .slice m.D V.cs.length m.d]) rfl rfl hu25 rfl info25s (blk_cells b1)) ?_
  refine E.GL.st rfl rfl rfl (E.ST.call rfl ent33 (E.evc rfl E.evn) ((check33 V m _ (hV.below L) hs).mono ?_))
  rintro e w24 ⟨rfl, l24⟩
  refine ⟨_, rfl, ?_⟩
  replace b1 := blk_below b1 l24
  replace L := below_step L l24
  by_cases ok : VOk V
  · refine E.GL.run rfl rfl rfl (E.Runs.neq rfl rfl rfl (E.ne_f (chkV_yes ok))) ?_
    refine E.GL.done ?_
    refine E.QG.code ?_
    refine E.CG.cond_f rfl ?_
    refine E.CG.skip ?_
    refine E.QG.code ?_
    refine E.CG.seq ?_
    refine E.CG.cut1 (fun (g4 : Nat) => [(1, .pointer (some ⟨g1, 0, none⟩)), (4, .pointer (some ⟨g4, 0, none⟩))]) (fun g4 w' => w'.heap[g1]? = some (.cells #[.slice m.A V.ps.length m.a, .slice m.B V.qs.length m.b, .slice m.C V.ts.length m.c, .slice m.D V.cs.length m.d] 25 (0, 0)) ∧ w.heap.size ≤ g4 ∧ ∃ (C : List Hd) (G : List (Option Nat)) (Ac : Option Addr) (cc : Nat) (Ab : Option Addr) (cb : Nat) (F : Nat → Bl → Option Int), w'.heap[g4]? = some (.cells (cells89 V m (.slice Ac C.length cc) (.slice Ab G.length cb) (.slice none 0 0)).toArray 89 (0, 0)) ∧ Kd.R kH 72 w' w.heap.size (fun _ => True) (.slice Ac C.length cc) C ∧ Kd.R kG 91 w' w.heap.size (fun _ => True) (.slice Ab G.length cb) G ∧ C.length = 0 ∧ G.length = 0 + 1 ∧ (∀ x ∈ G, x ≠ none) ∧ HC w w' V C ∧ HG w w' G F ∧ (∀ j, j ≤ 0 → IsB V j (F j)) ∧ Below w.heap.size w w') ?_ ?_
    · refine E.CG.heldH (none) (by kernel_rfl) fun v3 lD hh => ?_
      replace b1 := blk_below b1 lD
      replace L := below_step L lD
      clear lD
      have s_b1 := b1
      have s_L := L
      refine E.GH.take (i := 0) rfl (by kernel_rfl) (by kernel_rfl) (by kernel_rfl) E.calm_cut1 rfl rfl rfl (fun w' hS => (E.Runs.loads (cs := [.slice m.A V.ps.length m.a, .slice m.B V.qs.length m.b, .slice m.C V.ts.length m.c, .slice m.D V.cs.length m.d]) rfl rfl hu25 rfl info25s (blk_cells (blk_grown s_b1 hS E.nen)))) ?_
      refine E.GH.take (i := 1) rfl (by kernel_rfl) (by kernel_rfl) (by kernel_rfl) E.calm_cut1 rfl rfl rfl (fun w' hS => (E.Runs.fieldAddr rfl rfl hu25 rfl (by assumption) rfl)) ?_
      refine E.GH.take (i := 2) rfl (by kernel_rfl) (by kernel_rfl) (by kernel_rfl) E.calm_cut1 rfl rfl rfl (fun w' hS => (E.Runs.load1 rfl rfl hu22 rfl (by first | exact E.keeps hS (E.blkc (by assumption) rfl) (by first | exact E.nen | exact E.nes (by assumption) | exact E.nes (Ne.symm (by assumption))) | exact pw_cell_below (below_step s_L (E.belowG hS)) (by assumption)))) ?_
      refine E.GH.take (i := 5) rfl (by kernel_rfl) (by kernel_rfl) (by kernel_rfl) E.calm_cut1 rfl rfl rfl (fun w' hS => (E.Runs.build rfl E.epn build59z)) ?_
      refine E.GH.all (rs := [3, 4]) (by kernel_rfl) (by simp) (E.GHs.cons rfl ?_ (E.GHs.cons rfl ?_ E.GHs.nil))
      · refine E.GO.st rfl rfl rfl (E.ST.call rfl ent44 (E.evc rfl E.evn) ((said_calls V.qs m.B m.b _ (hV.below L).qs (by have := ok.nq; have := ok.n3; omega)).mono ?_))
        rintro e w29 ⟨rfl, l29⟩
        refine ⟨_, rfl, hh.trans (E.gbB l29), ?_⟩
        replace hh := hh.trans (E.gbB l29)
        replace b1 := blk_below b1 l29
        replace L := below_step L l29
        refine E.GH.one (i := 4) (by kernel_rfl) rfl ?_
        refine E.GO.st rfl rfl rfl (E.ST.makeMap bv evI rfl fun g30 w30 e30 m30 l30 => ⟨hh.trans (E.gbB l30), ?_⟩)
        have hh0 := hh
        replace hh := hh.trans (E.gbB l30)
        have h30_hh : v3.heap.size ≤ g30 := by rw [e30]; exact hh0.size
        have h30_L : w.heap.size ≤ g30 := by rw [e30]; exact L.size
        have n30_b1 : g1 ≠ g30 := by have := blk_lt b1; omega
        replace b1 := blk_below b1 l30
        replace L := below_step L l30
        refine E.GH.one (i := 6) (by kernel_rfl) rfl ?_
        refine E.GO.sn rfl rfl (E.ST.insert rfl rfl kBT Bl.z rfl rfl hu91 m30 fun w36 m36 l36 => ⟨E.gb_own hh h30_hh l36, ?_⟩)
        replace b1 := blk_grown b1 l36 (E.nes (Ne.symm (map_ne m30 b1)))
        replace L := E.below_own L h30_L l36
        replace hh := E.gb_own hh h30_hh l36
        replace m30 := m36
        refine E.GH.take (i := 7) rfl (by kernel_rfl) (by kernel_rfl) (by kernel_rfl) E.calm_cut1 rfl rfl rfl (fun w' hS => (E.Runs.move rfl rfl)) ?_
        refine E.GH.one (i := 8) (by kernel_rfl) rfl ?_
        refine E.GO.st rfl rfl rfl (E.ST.litAt kG w.heap.size (w0 := w) (ys := [some g30]) (inner := [.map (some g30)]) rfl rfl (E.epc rfl E.epn) (lit87 g30) (reps_map _ _ _) L L.size (by simp) fun u33 w33 r33 k33 l33 n33 => ⟨hh.trans (E.gbB l33), ?_⟩)
        replace b1 := blk_below b1 l33
        replace m30 := m30.below l33
        replace L := below_step L l33
        replace hh := hh.trans (E.gbB l33)
        clear k33
        obtain ⟨Ab, cb, hv33⟩ := Kd.R_slice r33
        subst hv33
        refine E.GH.take (i := 9) rfl (by kernel_rfl) (by kernel_rfl) (by kernel_rfl) E.calm_cut1 rfl rfl rfl (fun w' hS => (E.Runs.build rfl (E.epc rfl (E.epc rfl (E.epc rfl E.epn))) (build89 V m _ _ _))) ?_
        refine E.GH.one (i := 10) (by kernel_rfl) rfl ?_
        refine E.GO.st rfl rfl rfl (E.ST.box rfl rfl fun g35 w35 e35 b35 l35 => ⟨hh.trans (E.gbB l35), ?_⟩)
        have hh0 := hh
        replace hh := hh.trans (E.gbB l35)
        have h35_hh : v3.heap.size ≤ g35 := by rw [e35]; exact hh0.size
        have h35_L : w.heap.size ≤ g35 := by rw [e35]; exact L.size
        have n35_b1 : g1 ≠ g35 := by have := blk_lt b1; omega
        have n35_r33 : some g35 ≠ ((Value.slice Ab 1 cb)).ownBlock := fun h => by have := Kd.R_lt r33 _ h.symm; omega
        clear hh0
        replace b1 := blk_below b1 l35
        replace r33 := Kd.R_below r33 l35
        replace m30 := m30.below l35
        replace L := below_step L l35
        refine E.GH.take (i := 11) rfl (by kernel_rfl) (by kernel_rfl) (by kernel_rfl) E.calm_cut1 rfl rfl rfl (fun w' hS => (E.Runs.assign rfl rfl)) ?_
        refine E.GH.done (by kernel_rfl) ?_
        exact E.QG.meet1 g35 (E.subc rfl (E.subc rfl (E.subn))) ⟨b1, h35_L, [], [some g30], none, 0, Ab, cb, fun _ => E.upd (fun _ => none) Bl.z 0, b35, Kd.R_nil _ _ _ _ _, r33, rfl, rfl, by simp, ⟨fun j h hj => by simp at hj⟩, ⟨fun j g hj => by
              rcases j with _ | j
              · obtain rfl : g30 = g := by simpa using hj
                exact ⟨h30_L, m30⟩
              · simp at hj⟩, fun j hj => by
              obtain rfl : j = 0 := by omega
              exact IsB_zero V ok.q, L⟩
      · refine E.GO.st rfl rfl rfl (E.ST.makeMap bv evI rfl fun g30 w30 e30 m30 l30 => ⟨hh.trans (E.gbB l30), ?_⟩)
        have hh0 := hh
        replace hh := hh.trans (E.gbB l30)
        have h30_hh : v3.heap.size ≤ g30 := by rw [e30]; exact hh0.size
        have h30_L : w.heap.size ≤ g30 := by rw [e30]; exact L.size
        have n30_b1 : g1 ≠ g30 := by have := blk_lt b1; omega
        replace b1 := blk_below b1 l30
        replace L := below_step L l30
        refine E.GH.all (rs := [3, 6]) (by kernel_rfl) (by simp) (E.GHs.cons rfl ?_ (E.GHs.cons rfl ?_ E.GHs.nil))
        · refine E.GO.st rfl rfl rfl (E.ST.call rfl ent44 (E.evc rfl E.evn) ((said_calls V.qs m.B m.b _ (hV.below L).qs (by have := ok.nq; have := ok.n3; omega)).mono ?_))
          rintro e w29 ⟨rfl, l29⟩
          refine ⟨_, rfl, hh.trans (E.gbB l29), ?_⟩
          replace hh := hh.trans (E.gbB l29)
          replace b1 := blk_below b1 l29
          replace m30 := m30.below l29
          replace L := below_step L l29
          refine E.GH.one (i := 6) (by kernel_rfl) rfl ?_
          refine E.GO.sn rfl rfl (E.ST.insert rfl rfl kBT Bl.z rfl rfl hu91 m30 fun w36 m36 l36 => ⟨E.gb_own hh h30_hh l36, ?_⟩)
          replace b1 := blk_grown b1 l36 (E.nes (Ne.symm (map_ne m30 b1)))
          replace L := E.below_own L h30_L l36
          replace hh := E.gb_own hh h30_hh l36
          replace m30 := m36
          refine E.GH.take (i := 7) rfl (by kernel_rfl) (by kernel_rfl) (by kernel_rfl) E.calm_cut1 rfl rfl rfl (fun w' hS => (E.Runs.move rfl rfl)) ?_
          refine E.GH.one (i := 8) (by kernel_rfl) rfl ?_
          refine E.GO.st rfl rfl rfl (E.ST.litAt kG w.heap.size (w0 := w) (ys := [some g30]) (inner := [.map (some g30)]) rfl rfl (E.epc rfl E.epn) (lit87 g30) (reps_map _ _ _) L L.size (by simp) fun u33 w33 r33 k33 l33 n33 => ⟨hh.trans (E.gbB l33), ?_⟩)
          replace b1 := blk_below b1 l33
          replace m30 := m30.below l33
          replace L := below_step L l33
          replace hh := hh.trans (E.gbB l33)
          clear k33
          obtain ⟨Ab, cb, hv33⟩ := Kd.R_slice r33
          subst hv33
          refine E.GH.take (i := 9) rfl (by kernel_rfl) (by kernel_rfl) (by kernel_rfl) E.calm_cut1 rfl rfl rfl (fun w' hS => (E.Runs.build rfl (E.epc rfl (E.epc rfl (E.epc rfl E.epn))) (build89 V m _ _ _))) ?_
          refine E.GH.one (i := 10) (by kernel_rfl) rfl ?_
          refine E.GO.st rfl rfl rfl (E.ST.box rfl rfl fun g35 w35 e35 b35 l35 => ⟨hh.trans (E.gbB l35), ?_⟩)
          have hh0 := hh
          replace hh := hh.trans (E.gbB l35)
          have h35_hh : v3.heap.size ≤ g35 := by rw [e35]; exact hh0.size
          have h35_L : w.heap.size ≤ g35 := by rw [e35]; exact L.size
          have n35_b1 : g1 ≠ g35 := by have := blk_lt b1; omega
          have n35_r33 : some g35 ≠ ((Value.slice Ab 1 cb)).ownBlock := fun h => by have := Kd.R_lt r33 _ h.symm; omega
          clear hh0
          replace b1 := blk_below b1 l35
          replace r33 := Kd.R_below r33 l35
          replace m30 := m30.below l35
          replace L := below_step L l35
          refine E.GH.take (i := 11) rfl (by kernel_rfl) (by kernel_rfl) (by kernel_rfl) E.calm_cut1 rfl rfl rfl (fun w' hS => (E.Runs.assign rfl rfl)) ?_
          refine E.GH.done (by kernel_rfl) ?_
          exact E.QG.meet1 g35 (E.subc rfl (E.subc rfl (E.subn))) ⟨b1, h35_L, [], [some g30], none, 0, Ab, cb, fun _ => E.upd (fun _ => none) Bl.z 0, b35, Kd.R_nil _ _ _ _ _, r33, rfl, rfl, by simp, ⟨fun j h hj => by simp at hj⟩, ⟨fun j g hj => by
                rcases j with _ | j
                · obtain rfl : g30 = g := by simpa using hj
                  exact ⟨h30_L, m30⟩
                · simp at hj⟩, fun j hj => by
                obtain rfl : j = 0 := by omega
                exact IsB_zero V ok.q, L⟩
        · refine E.GO.sn rfl rfl (E.ST.insert rfl rfl kBT Bl.z rfl rfl hu91 m30 fun w36 m36 l36 => ⟨E.gb_own hh h30_hh l36, ?_⟩)
          replace b1 := blk_grown b1 l36 (E.nes (Ne.symm (map_ne m30 b1)))
          replace L := E.below_own L h30_L l36
          replace hh := E.gb_own hh h30_hh l36
          replace m30 := m36
          refine E.GH.take (i := 7) rfl (by kernel_rfl) (by kernel_rfl) (by kernel_rfl) E.calm_cut1 rfl rfl rfl (fun w' hS => (E.Runs.move rfl rfl)) ?_
          refine E.GH.all (rs := [3, 8]) (by kernel_rfl) (by simp) (E.GHs.cons rfl ?_ (E.GHs.cons rfl ?_ E.GHs.nil))
          · refine E.GO.st rfl rfl rfl (E.ST.call rfl ent44 (E.evc rfl E.evn) ((said_calls V.qs m.B m.b _ (hV.below L).qs (by have := ok.nq; have := ok.n3; omega)).mono ?_))
            rintro e w29 ⟨rfl, l29⟩
            refine ⟨_, rfl, hh.trans (E.gbB l29), ?_⟩
            replace hh := hh.trans (E.gbB l29)
            replace b1 := blk_below b1 l29
            replace m30 := m30.below l29
            replace L := below_step L l29
            refine E.GH.one (i := 8) (by kernel_rfl) rfl ?_
            refine E.GO.st rfl rfl rfl (E.ST.litAt kG w.heap.size (w0 := w) (ys := [some g30]) (inner := [.map (some g30)]) rfl rfl (E.epc rfl E.epn) (lit87 g30) (reps_map _ _ _) L L.size (by simp) fun u33 w33 r33 k33 l33 n33 => ⟨hh.trans (E.gbB l33), ?_⟩)
            replace b1 := blk_below b1 l33
            replace m30 := m30.below l33
            replace L := below_step L l33
            replace hh := hh.trans (E.gbB l33)
            clear k33
            obtain ⟨Ab, cb, hv33⟩ := Kd.R_slice r33
            subst hv33
            refine E.GH.take (i := 9) rfl (by kernel_rfl) (by kernel_rfl) (by kernel_rfl) E.calm_cut1 rfl rfl rfl (fun w' hS => (E.Runs.build rfl (E.epc rfl (E.epc rfl (E.epc rfl E.epn))) (build89 V m _ _ _))) ?_
            refine E.GH.one (i := 10) (by kernel_rfl) rfl ?_
            refine E.GO.st rfl rfl rfl (E.ST.box rfl rfl fun g35 w35 e35 b35 l35 => ⟨hh.trans (E.gbB l35), ?_⟩)
            have hh0 := hh
            replace hh := hh.trans (E.gbB l35)
            have h35_hh : v3.heap.size ≤ g35 := by rw [e35]; exact hh0.size
            have h35_L : w.heap.size ≤ g35 := by rw [e35]; exact L.size
            have n35_b1 : g1 ≠ g35 := by have := blk_lt b1; omega
            have n35_r33 : some g35 ≠ ((Value.slice Ab 1 cb)).ownBlock := fun h => by have := Kd.R_lt r33 _ h.symm; omega
            clear hh0
            replace b1 := blk_below b1 l35
            replace r33 := Kd.R_below r33 l35
            replace m30 := m30.below l35
            replace L := below_step L l35
            refine E.GH.take (i := 11) rfl (by kernel_rfl) (by kernel_rfl) (by kernel_rfl) E.calm_cut1 rfl rfl rfl (fun w' hS => (E.Runs.assign rfl rfl)) ?_
            refine E.GH.done (by kernel_rfl) ?_
            exact E.QG.meet1 g35 (E.subc rfl (E.subc rfl (E.subn))) ⟨b1, h35_L, [], [some g30], none, 0, Ab, cb, fun _ => E.upd (fun _ => none) Bl.z 0, b35, Kd.R_nil _ _ _ _ _, r33, rfl, rfl, by simp, ⟨fun j h hj => by simp at hj⟩, ⟨fun j g hj => by
                  rcases j with _ | j
                  · obtain rfl : g30 = g := by simpa using hj
                    exact ⟨h30_L, m30⟩
                  · simp at hj⟩, fun j hj => by
                  obtain rfl : j = 0 := by omega
                  exact IsB_zero V ok.q, L⟩
          · refine E.GO.st rfl rfl rfl (E.ST.litAt kG w.heap.size (w0 := w) (ys := [some g30]) (inner := [.map (some g30)]) rfl rfl (E.epc rfl E.epn) (lit87 g30) (reps_map _ _ _) L L.size (by simp) fun u33 w33 r33 k33 l33 n33 => ⟨hh.trans (E.gbB l33), ?_⟩)
            replace b1 := blk_below b1 l33
            replace m30 := m30.below l33
            replace L := below_step L l33
            replace hh := hh.trans (E.gbB l33)
            clear k33
            obtain ⟨Ab, cb, hv33⟩ := Kd.R_slice r33
            subst hv33
            refine E.GH.one (i := 3) (by kernel_rfl) rfl ?_
            refine E.GO.st rfl rfl rfl (E.ST.call rfl ent44 (E.evc rfl E.evn) ((said_calls V.qs m.B m.b _ (hV.below L).qs (by have := ok.nq; have := ok.n3; omega)).mono ?_))
            rintro e w29 ⟨rfl, l29⟩
            refine ⟨_, rfl, hh.trans (E.gbB l29), ?_⟩
            replace hh := hh.trans (E.gbB l29)
            replace b1 := blk_below b1 l29
            replace r33 := Kd.R_below r33 l29
            replace m30 := m30.below l29
            replace L := below_step L l29
            refine E.GH.take (i := 9) rfl (by kernel_rfl) (by kernel_rfl) (by kernel_rfl) E.calm_cut1 rfl rfl rfl (fun w' hS => (E.Runs.build rfl (E.epc rfl (E.epc rfl (E.epc rfl E.epn))) (build89 V m _ _ _))) ?_
            refine E.GH.one (i := 10) (by kernel_rfl) rfl ?_
            refine E.GO.st rfl rfl rfl (E.ST.box rfl rfl fun g35 w35 e35 b35 l35 => ⟨hh.trans (E.gbB l35), ?_⟩)
            have hh0 := hh
            replace hh := hh.trans (E.gbB l35)
            have h35_hh : v3.heap.size ≤ g35 := by rw [e35]; exact hh0.size
            have h35_L : w.heap.size ≤ g35 := by rw [e35]; exact L.size
            have n35_b1 : g1 ≠ g35 := by have := blk_lt b1; omega
            have n35_r33 : some g35 ≠ ((Value.slice Ab 1 cb)).ownBlock := fun h => by have := Kd.R_lt r33 _ h.symm; omega
            clear hh0
            replace b1 := blk_below b1 l35
            replace r33 := Kd.R_below r33 l35
            replace m30 := m30.below l35
            replace L := below_step L l35
            refine E.GH.take (i := 11) rfl (by kernel_rfl) (by kernel_rfl) (by kernel_rfl) E.calm_cut1 rfl rfl rfl (fun w' hS => (E.Runs.assign rfl rfl)) ?_
            refine E.GH.done (by kernel_rfl) ?_
            exact E.QG.meet1 g35 (E.subc rfl (E.subc rfl (E.subn))) ⟨b1, h35_L, [], [some g30], none, 0, Ab, cb, fun _ => E.upd (fun _ => none) Bl.z 0, b35, Kd.R_nil _ _ _ _ _, r33, rfl, rfl, by simp, ⟨fun j h hj => by simp at hj⟩, ⟨fun j g hj => by
                  rcases j with _ | j
                  · obtain rfl : g30 = g := by simpa using hj
                    exact ⟨h30_L, m30⟩
                  · simp at hj⟩, fun j hj => by
                  obtain rfl : j = 0 := by omega
                  exact IsB_zero V ok.q, L⟩
    intro g4 w3 ⟨b1, hR⟩
    refine E.QG.code ?_
    refine E.CG.seq ?_
    refine E.CG.seq ?_
    refine E.CG.list ?_
    refine E.GL.run rfl rfl rfl (E.Runs.fieldAddr rfl rfl hu25 rfl (by assumption) rfl) ?_
    refine E.GL.run rfl rfl rfl (E.Runs.load1 rfl rfl hu23 rfl (by first | assumption | exact E.blkc (by assumption) rfl | exact pw_cell_below L (by assumption))) ?_
    refine E.GL.run rfl rfl rfl (E.Runs.len rfl rfl hu23) ?_
    refine E.GL.run rfl rfl rfl (E.Runs.move rfl rfl) ?_
    refine E.GL.done ?_
    refine E.QG.code ?_
    refine E.CG.block ?_
    have s5_b1 := b1
    have s5_L := L
    refine E.CG.loop (fun (i : Nat) => [(1, .pointer (some ⟨g1, 0, none⟩)), (4, .pointer (some ⟨g4, 0, none⟩)), (37, .slice m.D V.cs.length m.d), (38, .int .i64 V.cs.length), (39, .int .i64 i)]) (fun i w' => i ≤ V.cs.length ∧ w'.heap[g1]? = some (.cells #[.slice m.A V.ps.length m.a, .slice m.B V.qs.length m.b, .slice m.C V.ts.length m.c, .slice m.D V.cs.length m.d] 25 (0, 0)) ∧ w.heap.size ≤ g4 ∧ ∃ (C : List Hd) (G : List (Option Nat)) (Ac : Option Addr) (cc : Nat) (Ab : Option Addr) (cb : Nat) (F : Nat → Bl → Option Int), w'.heap[g4]? = some (.cells (cells89 V m (.slice Ac C.length cc) (.slice Ab G.length cb) (.slice none 0 0)).toArray 89 (0, 0)) ∧ Kd.R kH 72 w' w.heap.size (fun _ => True) (.slice Ac C.length cc) C ∧ Kd.R kG 91 w' w.heap.size (fun _ => True) (.slice Ab G.length cb) G ∧ C.length = i ∧ G.length = i + 1 ∧ (∀ x ∈ G, x ≠ none) ∧ HC w w' V C ∧ HG w w' G F ∧ (∀ j, j ≤ i → IsB V j (F j)) ∧ Below w.heap.size w w') (fun i => V.cs.length - i) 0 (E.subc rfl (E.subc rfl (E.subc rfl (E.subc rfl (E.subc rfl E.subn))))) ⟨Nat.zero_le _, b1, hR⟩ ?_
    rintro i w5 ⟨hi, b1, h4_L, C, G, Ac, cc, Ab, cb, F, b4, RC, RB, hCl, hGl, hGn, hC, hG, hF, L⟩
    refine E.CG.seq ?_
    refine E.CG.list ?_
    refine E.GL.cmp rfl rfl rfl (fun _ h => (E.Runs.lss rfl rfl rfl h)) (fun h40 => ?_) (fun h40 => ?_)
    · obtain ⟨c, hc⟩ := get_ex (show i < V.cs.length by omega)
      obtain ⟨ad, a0, k0, eA, hk0, hx0, X⟩ := till_at hV.cs hc
      have hcok := ok.c c (List.mem_of_getElem? hc)
      have hct := ct_of hc
      have hcl := chs_len ok hcok
      refine E.GL.done ?_
      refine E.QG.code ?_
      refine E.CG.seq ?_
      refine E.CG.cond_t rfl ?_
      refine E.CG.skip ?_
      refine E.QG.code ?_
      refine E.CG.seq ?_
      refine E.CG.block ?_
      refine E.CG.seq ?_
      refine E.CG.list ?_
      refine E.GL.run rfl rfl rfl (E.Runs.move rfl rfl) ?_
      refine E.GL.run rfl rfl rfl (E.Runs.indexAddrA (i := i) rfl rfl rfl hu23 z40 o40 (by omega) eA rfl) ?_
      refine E.GL.run rfl rfl rfl (E.Runs.loads (cs := [.slice a0 c.f0.length k0, .int .i64 c.f1, .int .i64 c.f2, .int .i64 c.f3, .int .i64 c.f4, .int .i64 c.f5]) rfl rfl hu40 rfl info40s (till_cells X L)) ?_
      refine E.GL.st rfl rfl rfl (E.ST.alloc rfl info40z fun g6 w6 e6 b6 l6 => ?_)
      have h6_L : w.heap.size ≤ g6 := by rw [e6]; exact L.size
      have n6_b1 : g1 ≠ g6 := by have := blk_lt b1; omega
      have n6_b4 : g4 ≠ g6 := by have := blk_lt b4; omega
      have n6_RC : some g6 ≠ ((Value.slice Ac C.length cc)).ownBlock := fun h => by have := Kd.R_lt RC _ h.symm; omega
      have n6_RB : some g6 ≠ ((Value.slice Ab G.length cb)).ownBlock := fun h => by have := Kd.R_lt RB _ h.symm; omega
      replace b1 := blk_below b1 l6
      replace b4 := blk_below b4 l6
      replace RC := Kd.R_below RC l6
      replace RB := Kd.R_below RB l6
      replace hC := hC.below l6
      replace hG := hG.below l6
      replace L := below_step L l6
      refine E.GL.run rfl rfl rfl (E.Runs.assign rfl rfl) ?_
      refine E.GL.store_whole rfl rfl rfl rfl rfl b6 rfl info40s (cells6_one _ _ _ _ _ _ _ _) fun wS6_5 c6 lS6_5 => ?_
      replace b1 := blk_grown b1 lS6_5 (E.nes (by first | assumption | exact Ne.symm (by assumption)))
      replace b4 := blk_grown b4 lS6_5 (E.nes (by first | assumption | exact Ne.symm (by assumption)))
      replace RC := Kd.R_grown1 RC rfl lS6_5 (by first | assumption | exact Kd.R_ne RC b6 (by decide))
      replace RB := Kd.R_grown1 RB rfl lS6_5 (by first | assumption | exact Kd.R_ne RB b6 (by decide))
      replace hC := hC.grown lS6_5 (by first | exact oth b6 (by decide) | exact oth b4 (by decide))
      replace hG := hG.grown lS6_5 (by first | exact oth b6 (by decide) | exact oth b4 (by decide))
      replace L := E.below_own L h6_L lS6_5
      replace b6 := c6
      clear c6
      refine E.GL.done ?_
      refine E.QG.code ?_
      refine E.CG.seq ?_
      refine E.CG.list ?_
      refine E.GL.run rfl rfl rfl (E.Runs.loads (cs := [.slice m.A V.ps.length m.a, .slice m.B V.qs.length m.b, .slice m.C V.ts.length m.c, .slice m.D V.cs.length m.d]) rfl rfl hu25 rfl info25s (blk_cells b1)) ?_
      refine E.GL.run rfl rfl rfl (E.Runs.loads (cs := [.slice a0 c.f0.length k0, .int .i64 c.f1, .int .i64 c.f2, .int .i64 c.f3, .int .i64 c.f4, .int .i64 c.f5]) rfl rfl hu40 rfl info40s (blk_cells b6)) ?_
      have hs46 := L.size
      refine E.GL.st rfl rfl rfl (E.ST.call rfl ent73 (E.evc rfl (E.evc rfl E.evn)) ((choices_calls V m _ (hV.below L) ok c a0 k0 (Kd.C_below hx0 L) hcok).mono ?_))
      rintro e w46 ⟨A46, k46, rfl, RL, l46⟩
      refine ⟨_, rfl, ?_⟩
      replace b1 := blk_below b1 l46
      replace b4 := blk_below b4 l46
      replace b6 := blk_below b6 l46
      replace RC := Kd.R_below RC l46
      replace RB := Kd.R_below RB l46
      replace hC := hC.below l46
      replace hG := hG.below l46
      replace L := below_step L l46
      have K := Below.refl w46.heap.size w46
      replace RL := Kd.R_lower RL hs46
      have b1N := b1
      have b4N := b4
      have RCN := RC
      have RBN := RB
      have hCN := hC
      have hGN := hG
      have RLN := RL
      have LN := L
      refine E.GL.run rfl rfl rfl (E.Runs.assign rfl rfl) ?_
      refine E.GL.done ?_
      refine E.QG.code ?_
      refine E.CG.seq ?_
      refine E.CG.list ?_
      refine E.GL.st rfl rfl rfl (E.ST.makeMap bv evI rfl fun g47 w47 e47 m47 l47 => ?_)
      have hgN : w46.heap.size ≤ g47 := by rw [e47]; exact Nat.le_refl _
      replace b1 := blk_below b1 l47
      replace b4 := blk_below b4 l47
      replace b6 := blk_below b6 l47
      replace RC := Kd.R_below RC l47
      replace RB := Kd.R_below RB l47
      replace RL := Kd.R_below RL l47
      replace hC := hC.below l47
      replace hG := hG.below l47
      replace L := below_step L l47
      replace K := below_step K l47
      refine E.GL.run rfl rfl rfl (E.Runs.assign rfl rfl) ?_
      refine E.GL.done ?_
      refine E.QG.code ?_
      refine E.CG.seq ?_
      refine E.CG.seq ?_
      obtain ⟨gb, hgb1, hgb0, hgb2⟩ := hGN.at_ hGn (show i < G.length by omega)
      have hgb := hGN.lt hgb1
      have mB := (hG.mp i gb hgb1).2
      obtain ⟨adB, eAB, XB⟩ := sc_at (Kd.R_reads' RB).2.2 hgb1
      refine E.CG.list ?_
      refine E.GL.run rfl rfl rfl (E.Runs.move rfl rfl) ?_
      refine E.GL.run rfl rfl rfl (E.Runs.nilCheck rfl rfl) ?_
      refine E.GL.run rfl rfl rfl (E.Runs.fieldAddr rfl rfl hu89 rfl (by assumption) rfl) ?_
      refine E.GL.run rfl rfl rfl (E.Runs.load1 rfl rfl hu87 rfl (by first | assumption | exact E.blkc (by assumption) rfl | exact pw_cell_below L (by assumption) | exact pw_cell_below K (by assumption))) ?_
      refine E.GL.run rfl rfl rfl (E.Runs.move rfl rfl) ?_
      refine E.GL.run rfl rfl rfl (E.Runs.indexAddrA (i := i) rfl rfl rfl hu87 z91 o91 (by omega) eAB rfl) ?_
      refine E.GL.run rfl rfl rfl (E.Runs.load1 rfl rfl hu91 rfl XB) ?_
      refine E.GL.st rfl rfl rfl (E.ST.range rfl rfl hu91 mB fun r55 w55 n55 e55 it55 l55 => ?_)
      have hLp : Lp w46 w55 g47 r55 gb (F i) (fun _ => none) [] n55 := ⟨below_step l47 l55, it55, m47.below l55, by rw [e55]; exact l47.size, hgN, hgb⟩
      clear hC hG m47 b1 b4 b6 RC RB RL L K
      refine E.GL.done ?_
      refine E.QG.code ?_
      refine E.CG.block ?_
      refine E.CG.loop2 (fun (S : List Bl) (n : Nat) => [(1, .pointer (some ⟨g1, 0, none⟩)), (4, .pointer (some ⟨g4, 0, none⟩)), (37, .slice m.D V.cs.length m.d), (38, .int .i64 V.cs.length), (39, .int .i64 i), (7, .slice A46 (chs V c).length k46), (8, .map (some g47)), (55, .pointer (some ⟨r55, 0, none⟩))]) (fun S n w' => ∃ f, Lp w46 w' g47 r55 gb (F i) f S n ∧ ∀ c', Mn (fun y => (c'.Fits (bl V.qs) ∧ ∃ b ∈ S, ∃ m0, F i b = some m0 ∧ ∃ o ∈ chs V c, b.add o.b = c' ∧ y = m0 + o.f3)) (f c')) (fun S n => n) [] n55 (E.subc rfl (E.subc rfl (E.subc rfl (E.subc rfl (E.subc rfl (E.subc rfl (E.subc rfl (E.subc rfl E.subn)))))))) ⟨_, hLp, fun c' y h => by obtain ⟨_, b, hb, _⟩ := h; cases hb⟩ ?_
      rintro S n w10 ⟨f, hLp, hMn⟩
      refine E.CG.seq ?_
      refine E.CG.list ?_
      refine E.GL.st rfl rfl rfl (E.ST.next rfl rfl kBT hLp.it (fun hall => ?_) (fun x v w56 n' hx hxS hn' it56 mJ l56 => ?_))
      · refine E.GL.run rfl rfl rfl (E.Runs.extract rfl rfl rfl) ?_
        refine E.GL.done ?_
        refine E.QG.code ?_
        refine E.CG.seq ?_
        refine E.CG.cond_f rfl ?_
        refine E.CG.exit ?_
        refine E.QG.pass_exit ?_
        refine E.QG.pass_exit ?_
        refine E.QG.block_here ?_
        refine E.QG.code ?_
        have K := hLp.k
        have b1 := blk_below b1N K
        have b4 := blk_below b4N K
        have RC := Kd.R_below RCN K
        have RB := Kd.R_below RBN K
        have RL := Kd.R_below RLN K
        have hC := hCN.below K
        have hG := hGN.below K
        have L := below_step LN K
        have mN := hLp.mp
        have hgw : w.heap.size ≤ g47 := by have := LN.size; omega
        have hIB : IsB V (i + 1) f := IsB_next ok (by omega) (hF i (Nat.le_refl _)) (fun c' => (hMn c').congr fun y => by
          rw [hct]
          constructor
          · rintro ⟨a, b, _, m0, r⟩
            exact ⟨a, b, m0, r⟩
          · rintro ⟨a, b, m0, hm, r⟩
            exact ⟨a, b, hall b m0 hm, m0, hm, r⟩)
        clear K hLp hMn hall b1N b4N RCN RBN RLN hCN hGN LN
        refine E.CG.cut1 (fun _u : Unit => [(1, .pointer (some ⟨g1, 0, none⟩)), (4, .pointer (some ⟨g4, 0, none⟩)), (37, .slice m.D V.cs.length m.d), (38, .int .i64 V.cs.length), (39, .int .i64 i)]) (fun _u w' => w'.heap[g1]? = some (.cells #[.slice m.A V.ps.length m.a, .slice m.B V.qs.length m.b, .slice m.C V.ts.length m.c, .slice m.D V.cs.length m.d] 25 (0, 0)) ∧ w.heap.size ≤ g4 ∧ ∃ (C : List Hd) (G : List (Option Nat)) (Ac : Option Addr) (cc : Nat) (Ab : Option Addr) (cb : Nat) (F : Nat → Bl → Option Int), w'.heap[g4]? = some (.cells (cells89 V m (.slice Ac C.length cc) (.slice Ab G.length cb) (.slice none 0 0)).toArray 89 (0, 0)) ∧ Kd.R kH 72 w' w.heap.size (fun _ => True) (.slice Ac C.length cc) C ∧ Kd.R kG 91 w' w.heap.size (fun _ => True) (.slice Ab G.length cb) G ∧ C.length = (i + 1) ∧ G.length = (i + 1) + 1 ∧ (∀ x ∈ G, x ≠ none) ∧ HC w w' V C ∧ HG w w' G F ∧ (∀ j, j ≤ (i + 1) → IsB V j (F j)) ∧ Below w.heap.size w w') ?_ ?_
        · refine E.CG.heldJ 18 (fun v W => W.heap[g4]? = v.heap[g4]?) (fun _ _ => True) (by kernel_rfl) (by kernel_rfl) (fun v => rfl) fun v19 lD => ?_
          replace b1 := blk_below b1 lD
          replace b4 := blk_below b4 lD
          replace RC := Kd.R_below RC lD
          replace RB := Kd.R_below RB lD
          replace RL := Kd.R_below RL lD
          replace hC := hC.below lD
          replace hG := hG.below lD
          replace mN := mN.below lD
          replace L := below_step L lD
          clear lD
          have s_b4 := b4
          refine E.GJ.take1 (i := 0) rfl (by kernel_rfl) (by kernel_rfl) (by kernel_rfl) (by kernel_rfl) rfl (by kernel_rfl) (by kernel_rfl) (by intro c a d v w h; first | (cases d <;> exact h) | exact nomatch (show _ ∧ _ from h).1) rfl rfl rfl (fun w' hS => (E.Runs.move rfl rfl)) ?_
          refine E.GJ.take2 (i := 1) rfl (by kernel_rfl) (by kernel_rfl) (by kernel_rfl) (by kernel_rfl) (by intro c a d v w h; first | (cases d <;> exact h) | exact nomatch (show _ ∧ _ from h).1) rfl rfl rfl (fun w' hS => (E.Runs.move rfl rfl)) ?_
          refine E.GJ.take1 (i := 2) rfl (by kernel_rfl) (by kernel_rfl) (by kernel_rfl) (by kernel_rfl) rfl (by kernel_rfl) (by kernel_rfl) (by intro c a d v w h; first | (cases d <;> exact h) | exact nomatch (show _ ∧ _ from h).1) rfl rfl rfl (fun w' hS => (E.Runs.move rfl rfl)) ?_
          refine E.GJ.take1 (i := 3) rfl (by kernel_rfl) (by kernel_rfl) (by kernel_rfl) (by kernel_rfl) rfl (by kernel_rfl) (by kernel_rfl) (by intro c a d v w h; first | (cases d <;> exact h) | exact nomatch (show _ ∧ _ from h).1) rfl rfl rfl (fun w' hS => (E.Runs.nilCheck rfl rfl)) ?_
          refine E.GJ.take1 (i := 4) rfl (by kernel_rfl) (by kernel_rfl) (by kernel_rfl) (by kernel_rfl) rfl (by kernel_rfl) (by kernel_rfl) (by intro c a d v w h; first | (cases d <;> exact h) | exact nomatch (show _ ∧ _ from h).1) rfl rfl rfl (fun w' hS => (E.Runs.fieldAddr rfl rfl hu89 rfl (by assumption) rfl)) ?_
          refine E.GJ.take1 (i := 5) rfl (by kernel_rfl) (by kernel_rfl) (by kernel_rfl) (by kernel_rfl) rfl (by kernel_rfl) (by kernel_rfl) (by intro c a d v w h; first | (cases d <;> exact h) | exact nomatch (show _ ∧ _ from h).1) rfl rfl rfl (fun w' hS => (E.Runs.load1 rfl rfl hu86 rfl (E.blkc (hS.trans s_b4) rfl))) ?_
          refine E.GJ.take1 (i := 6) rfl (by kernel_rfl) (by kernel_rfl) (by kernel_rfl) (by kernel_rfl) rfl (by kernel_rfl) (by kernel_rfl) (by intro c a d v w h; first | (cases d <;> exact h) | exact nomatch (show _ ∧ _ from h).1) rfl rfl rfl (fun w' hS => (E.Runs.move rfl rfl)) ?_
          refine E.GJ.take2 (i := 9) rfl (by kernel_rfl) (by kernel_rfl) (by kernel_rfl) (by kernel_rfl) (by intro c a d v w h; first | (cases d <;> exact h) | exact nomatch (show _ ∧ _ from h).1) rfl rfl rfl (fun w' hS => (E.Runs.move rfl rfl)) ?_
          refine E.GJ.take2 (i := 10) rfl (by kernel_rfl) (by kernel_rfl) (by kernel_rfl) (by kernel_rfl) (by intro c a d v w h; first | (cases d <;> exact h) | exact nomatch (show _ ∧ _ from h).1) rfl rfl rfl (fun w' hS => (E.Runs.nilCheck rfl rfl)) ?_
          refine E.GJ.take1t (i := 11) 12 rfl (by kernel_rfl) (by kernel_rfl) (by kernel_rfl) (by kernel_rfl) rfl (by kernel_rfl) rfl (by kernel_rfl) (by kernel_rfl) (by kernel_rfl) (by kernel_rfl) (by kernel_rfl) (by intro c a d v w h; first | (cases d <;> exact h) | exact nomatch (show _ ∧ _ from h).1) rfl rfl rfl (fun w' hS => (E.Runs.fieldAddr rfl rfl hu89 rfl (by assumption) rfl)) ?_
          refine E.GJ.take1 (i := 12) rfl (by kernel_rfl) (by kernel_rfl) (by kernel_rfl) (by kernel_rfl) rfl (by kernel_rfl) (by kernel_rfl) (by intro c a d v w h; first | (cases d <;> exact h) | exact nomatch (show _ ∧ _ from h).1) rfl rfl rfl (fun w' hS => (E.Runs.load1 rfl rfl hu87 rfl (E.blkc (hS.trans s_b4) rfl))) ?_
          refine E.GJ.take2 (i := 13) rfl (by kernel_rfl) (by kernel_rfl) (by kernel_rfl) (by kernel_rfl) (by intro c a d v w h; first | (cases d <;> exact h) | exact nomatch (show _ ∧ _ from h).1) rfl rfl rfl (fun w' hS => (E.Runs.move rfl rfl)) ?_
          refine E.GJ.two (i := 7) (j := 14) (by kernel_rfl) ?_ ?_
          · refine (E.OJ.st rfl rfl rfl rfl (E.ST.litB (cs := #[.slice A46 (chs V c).length k46]) rfl (E.epc rfl E.epn) (lit86 _ _ _) fun g92 w92 e92 b92 l92 => ⟨(E.SJ.before (by kernel_rfl)).mpr ((blk_below b4 l92).trans s_b4.symm), ?_⟩))
            replace b1 := blk_below b1 l92
            replace b4 := blk_below b4 l92
            replace RC := Kd.R_below RC l92
            replace RB := Kd.R_below RB l92
            replace RL := Kd.R_below RL l92
            replace hC := hC.below l92
            replace hG := hG.below l92
            replace mN := mN.below l92
            replace L := below_step L l92
            refine E.GJ.two (i := 8) (j := 14) (by kernel_rfl) ?_ ?_
            · refine (E.OJ.st rfl rfl rfl rfl (E.ST.appendRows kH w.heap.size (w0 := w) (s := .tmp 90) (x := .tmp 92) rfl hu86 info72b rfl (by decide) (by decide) rfl rfl RC (C_hd b92) (fun _ _ h => h) L L.size (by omega) fun u93 w93 r93 k93 gr93 => ⟨(E.SJ.before (by kernel_rfl)).mpr ((blk_grown b4 gr93 (Kd.R_ne RC b4 (by decide))).trans s_b4.symm), ?_⟩))
              clear b92
              replace b1 := blk_grown b1 gr93 (Kd.R_ne RC b1 (by decide))
              replace b4 := blk_grown b4 gr93 (Kd.R_ne RC b4 (by decide))
              replace RB := Kd.R_over' RB (Kd.R_typed RC) (by decide) gr93
              replace RL := Kd.R_over' RL (Kd.R_typed RC) (by decide) gr93
              replace hC := hC.grown gr93 (oth_row RC (by decide))
              replace hG := hG.grown gr93 (oth_row RC (by decide))
              replace mN := mN.grown gr93 (map_row RC mN)
              replace L := k93
              obtain ⟨A93, c93, hv93⟩ := Kd.R_slice r93
              subst hv93
              clear k93 gr93 RC
              refine E.GJ.one (i := 14) (by kernel_rfl) (E.OJ.st rfl rfl rfl rfl (E.ST.litB (cs := #[.map (some g47)]) rfl (E.epc rfl E.epn) (lit87 _) fun g99 w99 e99 b99 l99 => ⟨(E.SJ.before (by kernel_rfl)).mpr ((blk_below b4 l99).trans s_b4.symm), ?_⟩))
              replace b1 := blk_below b1 l99
              replace b4 := blk_below b4 l99
              replace RB := Kd.R_below RB l99
              replace RL := Kd.R_below RL l99
              replace r93 := Kd.R_below r93 l99
              replace hC := hC.below l99
              replace hG := hG.below l99
              replace mN := mN.below l99
              replace L := below_step L l99
              refine E.GJ.one (i := 15) (by kernel_rfl) (E.OJ.st rfl rfl rfl rfl (E.ST.appendRows kG w.heap.size (w0 := w) (s := .tmp 97) (x := .tmp 99) rfl hu87 info91b rfl (by decide) (by decide) rfl rfl RB (C_mp b99) (fun _ _ h => h) L L.size (by omega) fun u100 w100 r100 k100 gr100 => ⟨(E.SJ.before (by kernel_rfl)).mpr ((blk_grown b4 gr100 (Kd.R_ne RB b4 (by decide))).trans s_b4.symm), ?_⟩))
              clear b99
              replace b1 := blk_grown b1 gr100 (Kd.R_ne RB b1 (by decide))
              replace b4 := blk_grown b4 gr100 (Kd.R_ne RB b4 (by decide))
              replace RL := Kd.R_over' RL (Kd.R_typed RB) (by decide) gr100
              replace r93 := Kd.R_over' r93 (Kd.R_typed RB) (by decide) gr100
              replace hC := hC.grown gr100 (oth_row RB (by decide))
              replace hG := hG.grown gr100 (oth_row RB (by decide))
              replace mN := mN.grown gr100 (map_row RB mN)
              replace L := k100
              obtain ⟨A100, c100, hv100⟩ := Kd.R_slice r100
              subst hv100
              clear k100 gr100 RB
              refine E.GJ.take1t (i := 16) 17 rfl (by kernel_rfl) (by kernel_rfl) (by kernel_rfl) (by kernel_rfl) rfl (by kernel_rfl) rfl (by kernel_rfl) (by kernel_rfl) (by kernel_rfl) (by kernel_rfl) (by kernel_rfl) (by intro c a d v w h; first | (cases d <;> exact h) | exact nomatch (show _ ∧ _ from h).1) rfl rfl rfl (fun w' hS => (E.Runs.nilCheck rfl rfl)) ?_
              refine E.GJ.take1 (i := 17) rfl (by kernel_rfl) (by kernel_rfl) (by kernel_rfl) (by kernel_rfl) rfl (by kernel_rfl) (by kernel_rfl) (by intro c a d v w h; first | (cases d <;> exact h) | exact nomatch (show _ ∧ _ from h).1) rfl rfl rfl (fun w' hS => (E.Runs.fieldAddr rfl rfl hu89 rfl (by assumption) rfl)) ?_
              refine E.GJ.one (i := 18) (by kernel_rfl) (E.OJ.sn rfl rfl rfl (E.ST.storeSl (cs := cells89 V m (.slice Ac C.length cc) (.slice Ab G.length cb) (.slice none 0 0)) rfl z86 o86 rfl rfl b4 rfl rfl fun w18 c4 l18 => ⟨(E.SJ.behind (by kernel_rfl)).mpr trivial, ?_⟩))
              replace b1 := blk_grown b1 l18 (E.nes (blk_ne b1 b4 (by decide)))
              replace RL := Kd.R_grown1 RL rfl l18 (Kd.R_ne RL b4 (by decide))
              replace r93 := Kd.R_grown1 r93 rfl l18 (Kd.R_ne r93 b4 (by decide))
              replace r100 := Kd.R_grown1 r100 rfl l18 (Kd.R_ne r100 b4 (by decide))
              replace hC := hC.grown l18 (oth b4 (by decide))
              replace hG := hG.grown l18 (oth b4 (by decide))
              replace mN := mN.grown l18 (fun e => by injection e with e; exact map_ne mN b4 e)
              replace L := E.below_own L h4_L l18
              replace b4 := c4
              refine E.GJ.one (i := 19) (by kernel_rfl) (E.OJ.st rfl rfl rfl rfl (E.ST.reads (E.Runs.nilCheck rfl rfl) ⟨(E.SJ.behind (by kernel_rfl)).mpr trivial, ?_⟩))
              refine E.GJ.one (i := 20) (by kernel_rfl) (E.OJ.st rfl rfl rfl rfl (E.ST.reads (E.Runs.fieldAddr rfl rfl hu89 rfl (by assumption) rfl) ⟨(E.SJ.behind (by kernel_rfl)).mpr trivial, ?_⟩))
              refine E.GJ.one (i := 21) (by kernel_rfl) (E.OJ.sn rfl rfl rfl (E.ST.storeSl (cs := cells89 V m (.slice A93 (C ++ [(⟨A46, (chs V c).length, k46⟩ : Hd)]).length c93) (.slice Ab G.length cb) (.slice none 0 0)) rfl z87 o87 rfl rfl b4 rfl rfl fun w21 c4b l21 => ⟨(E.SJ.behind (by kernel_rfl)).mpr trivial, ?_⟩))
              replace b1 := blk_grown b1 l21 (E.nes (blk_ne b1 b4 (by decide)))
              replace RL := Kd.R_grown1 RL rfl l21 (Kd.R_ne RL b4 (by decide))
              replace r93 := Kd.R_grown1 r93 rfl l21 (Kd.R_ne r93 b4 (by decide))
              replace r100 := Kd.R_grown1 r100 rfl l21 (Kd.R_ne r100 b4 (by decide))
              replace hC := hC.grown l21 (oth b4 (by decide))
              replace hG := hG.grown l21 (oth b4 (by decide))
              replace mN := mN.grown l21 (fun e => by injection e with e; exact map_ne mN b4 e)
              replace L := E.below_own L h4_L l21
              replace b4 := c4b
              refine E.GJ.done (by kernel_rfl) ?_
              exact E.QG.meet1 () (E.subc rfl (E.subc rfl (E.subc rfl (E.subc rfl (E.subc rfl (E.subn)))))) ⟨b1, h4_L, C ++ [(⟨A46, (chs V c).length, k46⟩ : Hd)], G ++ [some g47], A93, c93, A100, c100, fun j => if j < G.length then F j else f, b4, r93, r100, by simp [hCl], by simp [hGl], by
                intro z hz
                rcases List.mem_append.mp hz with hz | hz
                · exact hGn z hz
                · rw [List.mem_singleton] at hz; rw [hz]; exact Option.some_ne_none _, hC.push hCl (by rw [hct]) (by rw [hct]; exact RL), hG.push mN hgw, fun j hj => by
                by_cases q : j < G.length
                · simp only [q, if_true]; exact hF j (by omega)
                · obtain rfl : j = i + 1 := by omega
                  simp only [q, if_false]; exact hIB, L⟩
            · refine (E.OJ.st rfl rfl rfl rfl (E.ST.litB (cs := #[.map (some g47)]) rfl (E.epc rfl E.epn) (lit87 _) fun g99 w99 e99 b99 l99 => ⟨(E.SJ.before (by kernel_rfl)).mpr ((blk_below b4 l99).trans s_b4.symm), ?_⟩))
              replace b1 := blk_below b1 l99
              replace b4 := blk_below b4 l99
              replace b92 := blk_below b92 l99
              replace RC := Kd.R_below RC l99
              replace RB := Kd.R_below RB l99
              replace RL := Kd.R_below RL l99
              replace hC := hC.below l99
              replace hG := hG.below l99
              replace mN := mN.below l99
              replace L := below_step L l99
              refine E.GJ.one (i := 8) (by kernel_rfl) (E.OJ.st rfl rfl rfl rfl (E.ST.appendRows kH w.heap.size (w0 := w) (s := .tmp 90) (x := .tmp 92) rfl hu86 info72b rfl (by decide) (by decide) rfl rfl RC (C_hd b92) (fun _ _ h => h) L L.size (by omega) fun u93 w93 r93 k93 gr93 => ⟨(E.SJ.before (by kernel_rfl)).mpr ((blk_grown b4 gr93 (Kd.R_ne RC b4 (by decide))).trans s_b4.symm), ?_⟩))
              clear b92
              replace b1 := blk_grown b1 gr93 (Kd.R_ne RC b1 (by decide))
              replace b4 := blk_grown b4 gr93 (Kd.R_ne RC b4 (by decide))
              replace b99 := blk_grown b99 gr93 (Kd.R_ne RC b99 (by decide))
              replace RB := Kd.R_over' RB (Kd.R_typed RC) (by decide) gr93
              replace RL := Kd.R_over' RL (Kd.R_typed RC) (by decide) gr93
              replace hC := hC.grown gr93 (oth_row RC (by decide))
              replace hG := hG.grown gr93 (oth_row RC (by decide))
              replace mN := mN.grown gr93 (map_row RC mN)
              replace L := k93
              obtain ⟨A93, c93, hv93⟩ := Kd.R_slice r93
              subst hv93
              clear k93 gr93 RC
              refine E.GJ.one (i := 15) (by kernel_rfl) (E.OJ.st rfl rfl rfl rfl (E.ST.appendRows kG w.heap.size (w0 := w) (s := .tmp 97) (x := .tmp 99) rfl hu87 info91b rfl (by decide) (by decide) rfl rfl RB (C_mp b99) (fun _ _ h => h) L L.size (by omega) fun u100 w100 r100 k100 gr100 => ⟨(E.SJ.before (by kernel_rfl)).mpr ((blk_grown b4 gr100 (Kd.R_ne RB b4 (by decide))).trans s_b4.symm), ?_⟩))
              clear b99
              replace b1 := blk_grown b1 gr100 (Kd.R_ne RB b1 (by decide))
              replace b4 := blk_grown b4 gr100 (Kd.R_ne RB b4 (by decide))
              replace RL := Kd.R_over' RL (Kd.R_typed RB) (by decide) gr100
              replace r93 := Kd.R_over' r93 (Kd.R_typed RB) (by decide) gr100
              replace hC := hC.grown gr100 (oth_row RB (by decide))
              replace hG := hG.grown gr100 (oth_row RB (by decide))
              replace mN := mN.grown gr100 (map_row RB mN)
              replace L := k100
              obtain ⟨A100, c100, hv100⟩ := Kd.R_slice r100
              subst hv100
              clear k100 gr100 RB
              refine E.GJ.take1t (i := 16) 17 rfl (by kernel_rfl) (by kernel_rfl) (by kernel_rfl) (by kernel_rfl) rfl (by kernel_rfl) rfl (by kernel_rfl) (by kernel_rfl) (by kernel_rfl) (by kernel_rfl) (by kernel_rfl) (by intro c a d v w h; first | (cases d <;> exact h) | exact nomatch (show _ ∧ _ from h).1) rfl rfl rfl (fun w' hS => (E.Runs.nilCheck rfl rfl)) ?_
              refine E.GJ.take1 (i := 17) rfl (by kernel_rfl) (by kernel_rfl) (by kernel_rfl) (by kernel_rfl) rfl (by kernel_rfl) (by kernel_rfl) (by intro c a d v w h; first | (cases d <;> exact h) | exact nomatch (show _ ∧ _ from h).1) rfl rfl rfl (fun w' hS => (E.Runs.fieldAddr rfl rfl hu89 rfl (by assumption) rfl)) ?_
              refine E.GJ.one (i := 18) (by kernel_rfl) (E.OJ.sn rfl rfl rfl (E.ST.storeSl (cs := cells89 V m (.slice Ac C.length cc) (.slice Ab G.length cb) (.slice none 0 0)) rfl z86 o86 rfl rfl b4 rfl rfl fun w18 c4 l18 => ⟨(E.SJ.behind (by kernel_rfl)).mpr trivial, ?_⟩))
              replace b1 := blk_grown b1 l18 (E.nes (blk_ne b1 b4 (by decide)))
              replace RL := Kd.R_grown1 RL rfl l18 (Kd.R_ne RL b4 (by decide))
              replace r93 := Kd.R_grown1 r93 rfl l18 (Kd.R_ne r93 b4 (by decide))
              replace r100 := Kd.R_grown1 r100 rfl l18 (Kd.R_ne r100 b4 (by decide))
              replace hC := hC.grown l18 (oth b4 (by decide))
              replace hG := hG.grown l18 (oth b4 (by decide))
              replace mN := mN.grown l18 (fun e => by injection e with e; exact map_ne mN b4 e)
              replace L := E.below_own L h4_L l18
              replace b4 := c4
              refine E.GJ.one (i := 19) (by kernel_rfl) (E.OJ.st rfl rfl rfl rfl (E.ST.reads (E.Runs.nilCheck rfl rfl) ⟨(E.SJ.behind (by kernel_rfl)).mpr trivial, ?_⟩))
              refine E.GJ.one (i := 20) (by kernel_rfl) (E.OJ.st rfl rfl rfl rfl (E.ST.reads (E.Runs.fieldAddr rfl rfl hu89 rfl (by assumption) rfl) ⟨(E.SJ.behind (by kernel_rfl)).mpr trivial, ?_⟩))
              refine E.GJ.one (i := 21) (by kernel_rfl) (E.OJ.sn rfl rfl rfl (E.ST.storeSl (cs := cells89 V m (.slice A93 (C ++ [(⟨A46, (chs V c).length, k46⟩ : Hd)]).length c93) (.slice Ab G.length cb) (.slice none 0 0)) rfl z87 o87 rfl rfl b4 rfl rfl fun w21 c4b l21 => ⟨(E.SJ.behind (by kernel_rfl)).mpr trivial, ?_⟩))
              replace b1 := blk_grown b1 l21 (E.nes (blk_ne b1 b4 (by decide)))
              replace RL := Kd.R_grown1 RL rfl l21 (Kd.R_ne RL b4 (by decide))
              replace r93 := Kd.R_grown1 r93 rfl l21 (Kd.R_ne r93 b4 (by decide))
              replace r100 := Kd.R_grown1 r100 rfl l21 (Kd.R_ne r100 b4 (by decide))
              replace hC := hC.grown l21 (oth b4 (by decide))
              replace hG := hG.grown l21 (oth b4 (by decide))
              replace mN := mN.grown l21 (fun e => by injection e with e; exact map_ne mN b4 e)
              replace L := E.below_own L h4_L l21
              replace b4 := c4b
              refine E.GJ.done (by kernel_rfl) ?_
              exact E.QG.meet1 () (E.subc rfl (E.subc rfl (E.subc rfl (E.subc rfl (E.subc rfl (E.subn)))))) ⟨b1, h4_L, C ++ [(⟨A46, (chs V c).length, k46⟩ : Hd)], G ++ [some g47], A93, c93, A100, c100, fun j => if j < G.length then F j else f, b4, r93, r100, by simp [hCl], by simp [hGl], by
                intro z hz
                rcases List.mem_append.mp hz with hz | hz
                · exact hGn z hz
                · rw [List.mem_singleton] at hz; rw [hz]; exact Option.some_ne_none _, hC.push hCl (by rw [hct]) (by rw [hct]; exact RL), hG.push mN hgw, fun j hj => by
                by_cases q : j < G.length
                · simp only [q, if_true]; exact hF j (by omega)
                · obtain rfl : j = i + 1 := by omega
                  simp only [q, if_false]; exact hIB, L⟩
          · refine (E.OJ.st rfl rfl rfl rfl (E.ST.litB (cs := #[.map (some g47)]) rfl (E.epc rfl E.epn) (lit87 _) fun g99 w99 e99 b99 l99 => ⟨(E.SJ.before (by kernel_rfl)).mpr ((blk_below b4 l99).trans s_b4.symm), ?_⟩))
            replace b1 := blk_below b1 l99
            replace b4 := blk_below b4 l99
            replace RC := Kd.R_below RC l99
            replace RB := Kd.R_below RB l99
            replace RL := Kd.R_below RL l99
            replace hC := hC.below l99
            replace hG := hG.below l99
            replace mN := mN.below l99
            replace L := below_step L l99
            refine E.GJ.one (i := 7) (by kernel_rfl) (E.OJ.st rfl rfl rfl rfl (E.ST.litB (cs := #[.slice A46 (chs V c).length k46]) rfl (E.epc rfl E.epn) (lit86 _ _ _) fun g92 w92 e92 b92 l92 => ⟨(E.SJ.before (by kernel_rfl)).mpr ((blk_below b4 l92).trans s_b4.symm), ?_⟩))
            replace b1 := blk_below b1 l92
            replace b4 := blk_below b4 l92
            replace b99 := blk_below b99 l92
            replace RC := Kd.R_below RC l92
            replace RB := Kd.R_below RB l92
            replace RL := Kd.R_below RL l92
            replace hC := hC.below l92
            replace hG := hG.below l92
            replace mN := mN.below l92
            replace L := below_step L l92
            refine E.GJ.one (i := 8) (by kernel_rfl) (E.OJ.st rfl rfl rfl rfl (E.ST.appendRows kH w.heap.size (w0 := w) (s := .tmp 90) (x := .tmp 92) rfl hu86 info72b rfl (by decide) (by decide) rfl rfl RC (C_hd b92) (fun _ _ h => h) L L.size (by omega) fun u93 w93 r93 k93 gr93 => ⟨(E.SJ.before (by kernel_rfl)).mpr ((blk_grown b4 gr93 (Kd.R_ne RC b4 (by decide))).trans s_b4.symm), ?_⟩))
            clear b92
            replace b1 := blk_grown b1 gr93 (Kd.R_ne RC b1 (by decide))
            replace b4 := blk_grown b4 gr93 (Kd.R_ne RC b4 (by decide))
            replace b99 := blk_grown b99 gr93 (Kd.R_ne RC b99 (by decide))
            replace RB := Kd.R_over' RB (Kd.R_typed RC) (by decide) gr93
            replace RL := Kd.R_over' RL (Kd.R_typed RC) (by decide) gr93
            replace hC := hC.grown gr93 (oth_row RC (by decide))
            replace hG := hG.grown gr93 (oth_row RC (by decide))
            replace mN := mN.grown gr93 (map_row RC mN)
            replace L := k93
            obtain ⟨A93, c93, hv93⟩ := Kd.R_slice r93
            subst hv93
            clear k93 gr93 RC
            refine E.GJ.one (i := 15) (by kernel_rfl) (E.OJ.st rfl rfl rfl rfl (E.ST.appendRows kG w.heap.size (w0 := w) (s := .tmp 97) (x := .tmp 99) rfl hu87 info91b rfl (by decide) (by decide) rfl rfl RB (C_mp b99) (fun _ _ h => h) L L.size (by omega) fun u100 w100 r100 k100 gr100 => ⟨(E.SJ.before (by kernel_rfl)).mpr ((blk_grown b4 gr100 (Kd.R_ne RB b4 (by decide))).trans s_b4.symm), ?_⟩))
            clear b99
            replace b1 := blk_grown b1 gr100 (Kd.R_ne RB b1 (by decide))
            replace b4 := blk_grown b4 gr100 (Kd.R_ne RB b4 (by decide))
            replace RL := Kd.R_over' RL (Kd.R_typed RB) (by decide) gr100
            replace r93 := Kd.R_over' r93 (Kd.R_typed RB) (by decide) gr100
            replace hC := hC.grown gr100 (oth_row RB (by decide))
            replace hG := hG.grown gr100 (oth_row RB (by decide))
            replace mN := mN.grown gr100 (map_row RB mN)
            replace L := k100
            obtain ⟨A100, c100, hv100⟩ := Kd.R_slice r100
            subst hv100
            clear k100 gr100 RB
            refine E.GJ.take1t (i := 16) 17 rfl (by kernel_rfl) (by kernel_rfl) (by kernel_rfl) (by kernel_rfl) rfl (by kernel_rfl) rfl (by kernel_rfl) (by kernel_rfl) (by kernel_rfl) (by kernel_rfl) (by kernel_rfl) (by intro c a d v w h; first | (cases d <;> exact h) | exact nomatch (show _ ∧ _ from h).1) rfl rfl rfl (fun w' hS => (E.Runs.nilCheck rfl rfl)) ?_
            refine E.GJ.take1 (i := 17) rfl (by kernel_rfl) (by kernel_rfl) (by kernel_rfl) (by kernel_rfl) rfl (by kernel_rfl) (by kernel_rfl) (by intro c a d v w h; first | (cases d <;> exact h) | exact nomatch (show _ ∧ _ from h).1) rfl rfl rfl (fun w' hS => (E.Runs.fieldAddr rfl rfl hu89 rfl (by assumption) rfl)) ?_
            refine E.GJ.one (i := 18) (by kernel_rfl) (E.OJ.sn rfl rfl rfl (E.ST.storeSl (cs := cells89 V m (.slice Ac C.length cc) (.slice Ab G.length cb) (.slice none 0 0)) rfl z86 o86 rfl rfl b4 rfl rfl fun w18 c4 l18 => ⟨(E.SJ.behind (by kernel_rfl)).mpr trivial, ?_⟩))
            replace b1 := blk_grown b1 l18 (E.nes (blk_ne b1 b4 (by decide)))
            replace RL := Kd.R_grown1 RL rfl l18 (Kd.R_ne RL b4 (by decide))
            replace r93 := Kd.R_grown1 r93 rfl l18 (Kd.R_ne r93 b4 (by decide))
            replace r100 := Kd.R_grown1 r100 rfl l18 (Kd.R_ne r100 b4 (by decide))
            replace hC := hC.grown l18 (oth b4 (by decide))
            replace hG := hG.grown l18 (oth b4 (by decide))
            replace mN := mN.grown l18 (fun e => by injection e with e; exact map_ne mN b4 e)
            replace L := E.below_own L h4_L l18
            replace b4 := c4
            refine E.GJ.one (i := 19) (by kernel_rfl) (E.OJ.st rfl rfl rfl rfl (E.ST.reads (E.Runs.nilCheck rfl rfl) ⟨(E.SJ.behind (by kernel_rfl)).mpr trivial, ?_⟩))
            refine E.GJ.one (i := 20) (by kernel_rfl) (E.OJ.st rfl rfl rfl rfl (E.ST.reads (E.Runs.fieldAddr rfl rfl hu89 rfl (by assumption) rfl) ⟨(E.SJ.behind (by kernel_rfl)).mpr trivial, ?_⟩))
            refine E.GJ.one (i := 21) (by kernel_rfl) (E.OJ.sn rfl rfl rfl (E.ST.storeSl (cs := cells89 V m (.slice A93 (C ++ [(⟨A46, (chs V c).length, k46⟩ : Hd)]).length c93) (.slice Ab G.length cb) (.slice none 0 0)) rfl z87 o87 rfl rfl b4 rfl rfl fun w21 c4b l21 => ⟨(E.SJ.behind (by kernel_rfl)).mpr trivial, ?_⟩))
            replace b1 := blk_grown b1 l21 (E.nes (blk_ne b1 b4 (by decide)))
            replace RL := Kd.R_grown1 RL rfl l21 (Kd.R_ne RL b4 (by decide))
            replace r93 := Kd.R_grown1 r93 rfl l21 (Kd.R_ne r93 b4 (by decide))
            replace r100 := Kd.R_grown1 r100 rfl l21 (Kd.R_ne r100 b4 (by decide))
            replace hC := hC.grown l21 (oth b4 (by decide))
            replace hG := hG.grown l21 (oth b4 (by decide))
            replace mN := mN.grown l21 (fun e => by injection e with e; exact map_ne mN b4 e)
            replace L := E.below_own L h4_L l21
            replace b4 := c4b
            refine E.GJ.done (by kernel_rfl) ?_
            exact E.QG.meet1 () (E.subc rfl (E.subc rfl (E.subc rfl (E.subc rfl (E.subc rfl (E.subn)))))) ⟨b1, h4_L, C ++ [(⟨A46, (chs V c).length, k46⟩ : Hd)], G ++ [some g47], A93, c93, A100, c100, fun j => if j < G.length then F j else f, b4, r93, r100, by simp [hCl], by simp [hGl], by
              intro z hz
              rcases List.mem_append.mp hz with hz | hz
              · exact hGn z hz
              · rw [List.mem_singleton] at hz; rw [hz]; exact Option.some_ne_none _, hC.push hCl (by rw [hct]) (by rw [hct]; exact RL), hG.push mN hgw, fun j hj => by
              by_cases q : j < G.length
              · simp only [q, if_true]; exact hF j (by omega)
              · obtain rfl : j = i + 1 := by omega
                simp only [q, if_false]; exact hIB, L⟩
        intro _u w19 hNext
        refine E.QG.block_normal ?_
        refine E.QG.code ?_
        refine E.CG.list ?_
        refine E.GL.run rfl rfl rfl (E.Runs.add rfl rfl rfl (IntWalk.i64_in _ (by omega))) ?_
        refine E.GL.run rfl rfl rfl (E.Runs.move rfl rfl) ?_
        refine E.GL.done ?_
        exact E.QG.round (i + 1) (E.subc rfl (E.subc rfl (E.subc rfl (E.subc rfl (E.subc rfl E.subn))))) ⟨by omega, hNext⟩ (by omega)
      · replace hLp := hLp.stepped l56 it56
        obtain ⟨hsx, hv0, hv2⟩ := isB_small ok (hF i (Nat.le_refl _)) hx
        refine E.GL.run rfl rfl rfl (E.Runs.extract rfl rfl rfl) ?_
        refine E.GL.done ?_
        refine E.QG.code ?_
        refine E.CG.seq ?_
        refine E.CG.cond_t rfl ?_
        refine E.CG.skip ?_
        refine E.QG.code ?_
        refine E.CG.block ?_
        refine E.CG.seq ?_
        refine E.CG.list ?_
        refine E.GL.run rfl rfl rfl (E.Runs.entry rfl rfl mJ) ?_
        refine E.GL.run rfl rfl rfl (E.Runs.extract rfl rfl rfl) ?_
        refine E.GL.run rfl rfl rfl (E.Runs.extract rfl rfl rfl) ?_
        have hz9 := hLp.k.size
        refine E.GL.st rfl rfl rfl (E.ST.alloc rfl info59z fun g9 w9 e9 b9 l9 => ?_)
        replace hLp := hLp.below l9
        have hs9 : w46.heap.size ≤ g9 := by omega
        refine E.GL.store_whole rfl rfl rfl rfl rfl b9 rfl info59s (bv_one x) fun wS11_4 c9 lS11_4 => ?_
        replace hLp := hLp.grown lS11_4 (by first | exact ⟨hs13, _, _, b13⟩ | exact ⟨hs12, _, _, b12⟩ | exact ⟨hs9, _, _, b9⟩)
        replace b9 := c9
        clear c9
        refine E.GL.run rfl rfl rfl (E.Runs.assign rfl rfl) ?_
        refine E.GL.done ?_
        refine E.QG.code ?_
        refine E.CG.seq ?_
        refine E.CG.list ?_
        refine E.GL.run rfl rfl rfl (E.Runs.move rfl rfl) ?_
        refine E.GL.run rfl rfl rfl (E.Runs.len rfl rfl hu72) ?_
        refine E.GL.run rfl rfl rfl (E.Runs.move rfl rfl) ?_
        refine E.GL.done ?_
        refine E.QG.code ?_
        refine E.CG.block ?_
        have s13_b9 := b9
        refine E.CG.loop (fun (k : Nat) => [(1, .pointer (some ⟨g1, 0, none⟩)), (4, .pointer (some ⟨g4, 0, none⟩)), (37, .slice m.D V.cs.length m.d), (38, .int .i64 V.cs.length), (39, .int .i64 i), (7, .slice A46 (chs V c).length k46), (8, .map (some g47)), (55, .pointer (some ⟨r55, 0, none⟩)), (9, .pointer (some ⟨g9, 0, none⟩)), (10, .int .i64 v), (61, .slice A46 (chs V c).length k46), (62, .int .i64 (chs V c).length), (63, .int .i64 k)]) (fun k w' => k ≤ (chs V c).length ∧ w'.heap[g9]? = some (.cells #[.int .i64 x.f0, .int .i64 x.f1, .int .i64 x.f2] 59 (0, 0)) ∧ ∃ f, Lp w46 w' g47 r55 gb (F i) f (S ++ [x]) n' ∧ ∀ c', Mn (fun y => ((c'.Fits (bl V.qs) ∧ ∃ b ∈ S, ∃ m0, F i b = some m0 ∧ ∃ o ∈ chs V c, b.add o.b = c' ∧ y = m0 + o.f3) ∨ (c'.Fits (bl V.qs) ∧ ∃ o ∈ (chs V c).take k, x.add o.b = c' ∧ y = v + o.f3))) (f c')) (fun k => (chs V c).length - k) 0 (E.subc rfl (E.subc rfl (E.subc rfl (E.subc rfl (E.subc rfl (E.subc rfl (E.subc rfl (E.subc rfl (E.subc rfl (E.subc rfl (E.subc rfl (E.subc rfl (E.subc rfl E.subn))))))))))))) ⟨Nat.zero_le _, b9, f, hLp, fun c' => (hMn c').congr fun y => by simp⟩ ?_
        rintro k w13 ⟨hk, b9, f, hLp, hMn⟩
        refine E.CG.seq ?_
        refine E.CG.list ?_
        refine E.GL.cmp rfl rfl rfl (fun _ h => (E.Runs.lss rfl rfl rfl h)) (fun h64 => ?_) (fun h64 => ?_)
        · obtain ⟨o, ho⟩ := get_ex (show k < (chs V c).length by omega)
          obtain ⟨ao, eO, XO⟩ := ch_at (Kd.R_reads' RLN).2.2 ho
          obtain ⟨wb, hwb, hob⟩ := (mem_chs ok.n1 ok.n3 hcok.2.2.2.2.2.2.2.1).mp (List.mem_of_getElem? ho)
          have hso : SmallB o.b 20 := by rw [hob]; exact way_small hwb hcok.2.2.2.2.2.2.2.2
          have hof := fl_01 V c wb
          have hof3 : o.f3 = fl V c wb := by rw [hob]; rfl
          refine E.GL.done ?_
          refine E.QG.code ?_
          refine E.CG.seq ?_
          refine E.CG.cond_t rfl ?_
          refine E.CG.skip ?_
          refine E.QG.code ?_
          refine E.CG.seq ?_
          refine E.CG.block ?_
          refine E.CG.seq ?_
          refine E.CG.list ?_
          refine E.GL.run rfl rfl rfl (E.Runs.indexAddrA (i := k) rfl rfl rfl hu72 z69 o69 (by omega) eO rfl) ?_
          refine E.GL.run rfl rfl rfl (E.Runs.loads (cs := [.int .i64 o.f0, .int .i64 o.f1, .int .i64 o.f2, .int .i64 o.f3]) rfl rfl hu69 rfl info69s (fun j v hv => pw_cell_below hLp.k (XO j v hv))) ?_
          have hz12 := hLp.k.size
          refine E.GL.st rfl rfl rfl (E.ST.alloc rfl info69z fun g12 w12 e12 b12 l12 => ?_)
          have n12_b9 : g9 ≠ g12 := by have := blk_lt b9; omega
          replace b9 := blk_below b9 l12
          replace hLp := hLp.below l12
          have hs12 : w46.heap.size ≤ g12 := by omega
          refine E.GL.store_whole rfl rfl rfl rfl rfl b12 rfl info69s (four_one' _ _ _ _) fun wS14_3 c12 lS14_3 => ?_
          replace b9 := blk_grown b9 lS14_3 (E.nes (by first | assumption | exact Ne.symm (by assumption)))
          replace hLp := hLp.grown lS14_3 (by first | exact ⟨hs13, _, _, b13⟩ | exact ⟨hs12, _, _, b12⟩ | exact ⟨hs9, _, _, b9⟩)
          replace b12 := c12
          clear c12
          refine E.GL.done ?_
          refine E.QG.code ?_
          refine E.CG.seq ?_
          refine E.CG.list ?_
          refine E.GL.run rfl rfl rfl (E.Runs.loads (cs := [.int .i64 x.f0, .int .i64 x.f1, .int .i64 x.f2]) rfl rfl hu59 rfl info59s (blk_cells b9)) ?_
          refine E.GL.run rfl rfl rfl (E.Runs.fieldAddr rfl rfl hu69 rfl (by assumption) rfl) ?_
          refine E.GL.run rfl rfl rfl (E.Runs.loads (cs := [.int .i64 o.b.f0, .int .i64 o.b.f1, .int .i64 o.b.f2]) rfl rfl hu59 rfl info59s (mid69 b12)) ?_
          refine E.GL.st rfl rfl rfl (E.ST.call rfl ent48 (E.evc rfl (E.evc rfl E.evn)) ((plus_calls x o.b _ (hsx.up (by decide)) (hso.up (by decide))).mono ?_))
          rintro e w70 ⟨rfl, l70⟩
          refine ⟨_, rfl, ?_⟩
          replace b9 := blk_below b9 l70
          replace b12 := blk_below b12 l70
          replace hLp := hLp.below l70
          have hz13 := hLp.k.size
          refine E.GL.st rfl rfl rfl (E.ST.alloc rfl info59z fun g13 w13 e13 b13 l13 => ?_)
          have n13_b9 : g9 ≠ g13 := by have := blk_lt b9; omega
          have n13_b12 : g12 ≠ g13 := by have := blk_lt b12; omega
          replace b9 := blk_below b9 l13
          replace b12 := blk_below b12 l13
          replace hLp := hLp.below l13
          have hs13 : w46.heap.size ≤ g13 := by omega
          refine E.GL.store_whole rfl rfl rfl rfl rfl b13 rfl info59s (bv_one (x.add o.b)) fun wS15_5 c13 lS15_5 => ?_
          replace b9 := blk_grown b9 lS15_5 (E.nes (by first | assumption | exact Ne.symm (by assumption)))
          replace b12 := blk_grown b12 lS15_5 (E.nes (by first | assumption | exact Ne.symm (by assumption)))
          replace hLp := hLp.grown lS15_5 (by first | exact ⟨hs13, _, _, b13⟩ | exact ⟨hs12, _, _, b12⟩ | exact ⟨hs9, _, _, b9⟩)
          replace b13 := c13
          clear c13
          refine E.GL.done ?_
          refine E.QG.code ?_
          refine E.CG.seq ?_
          refine E.CG.heldH (none) (by kernel_rfl) fun v16 lD hh => ?_
          replace b9 := blk_below b9 lD
          replace b12 := blk_below b12 lD
          replace b13 := blk_below b13 lD
          replace hLp := hLp.below lD
          clear lD
          have s_b9 := b9
          have s_b12 := b12
          have s_b13 := b13
          have s_hLp := hLp
          refine E.GH.take (i := 0) rfl (by kernel_rfl) (by kernel_rfl) (by kernel_rfl) (by intro c a d v w h; first | (cases d <;> exact h) | exact nomatch (show _ ∧ _ from h).1) rfl rfl rfl (fun w' hS => (E.Runs.loads (cs := [.int .i64 (x.add o.b).f0, .int .i64 (x.add o.b).f1, .int .i64 (x.add o.b).f2]) rfl rfl hu59 rfl info59s (blk_cells (blk_grown s_b13 hS E.nen)))) ?_
          refine E.GH.take (i := 1) rfl (by kernel_rfl) (by kernel_rfl) (by kernel_rfl) (by intro c a d v w h; first | (cases d <;> exact h) | exact nomatch (show _ ∧ _ from h).1) rfl rfl rfl (fun w' hS => (E.Runs.move rfl rfl)) ?_
          refine E.GH.take (i := 2) rfl (by kernel_rfl) (by kernel_rfl) (by kernel_rfl) (by intro c a d v w h; first | (cases d <;> exact h) | exact nomatch (show _ ∧ _ from h).1) rfl rfl rfl (fun w' hS => (E.Runs.nilCheck rfl rfl)) ?_
          refine E.GH.take (i := 3) rfl (by kernel_rfl) (by kernel_rfl) (by kernel_rfl) (by intro c a d v w h; first | (cases d <;> exact h) | exact nomatch (show _ ∧ _ from h).1) rfl rfl rfl (fun w' hS => (E.Runs.fieldAddr rfl rfl hu89 rfl (by assumption) rfl)) ?_
          refine E.GH.take (i := 4) rfl (by kernel_rfl) (by kernel_rfl) (by kernel_rfl) (by intro c a d v w h; first | (cases d <;> exact h) | exact nomatch (show _ ∧ _ from h).1) rfl rfl rfl (fun w' hS => (E.Runs.loads (cs := [.int .i64 (bl V.qs).f0, .int .i64 (bl V.qs).f1, .int .i64 (bl V.qs).f2]) rfl rfl hu59 rfl info59s (fun j v hv => pw_cell_below (below_step s_hLp.k (E.belowG hS)) (mid89 b4N j v hv)))) ?_
          by_cases h76 : (x.add o.b).Fits (bl V.qs)
          · refine E.GH.one (i := 5) (by kernel_rfl) rfl ?_
            refine E.GO.st rfl rfl rfl (E.ST.call rfl ent74 (E.evc rfl (E.evc rfl E.evn)) ((fits_calls (x.add o.b) (bl V.qs) true (iff_of_true rfl h76) _).mono ?_))
            rintro e w76 ⟨rfl, l76⟩
            refine ⟨_, rfl, hh.trans (E.gbB l76), ?_⟩
            replace hh := hh.trans (E.gbB l76)
            replace b9 := blk_below b9 l76
            replace b12 := blk_below b12 l76
            replace b13 := blk_below b13 l76
            replace hLp := hLp.below l76
            refine E.GH.done (by kernel_rfl) ?_
            refine E.QG.code ?_
            refine E.CG.cond_t rfl ?_
            refine E.CG.list ?_
            refine E.GL.run rfl rfl rfl (E.Runs.move rfl rfl) ?_
            refine E.GL.run rfl rfl rfl (E.Runs.loads (cs := [.int .i64 (x.add o.b).f0, .int .i64 (x.add o.b).f1, .int .i64 (x.add o.b).f2]) rfl rfl hu59 rfl info59s (blk_cells b13)) ?_
            refine E.GL.run rfl rfl rfl (E.Runs.move rfl rfl) ?_
            refine E.GL.run rfl rfl rfl (E.Runs.fieldAddr rfl rfl hu69 rfl (by assumption) rfl) ?_
            refine E.GL.run rfl rfl rfl (E.Runs.load rfl rfl hu3 (by first | assumption | exact E.blkc (by assumption) rfl)) ?_
            refine E.GL.run rfl rfl rfl (E.Runs.add rfl rfl rfl (IntWalk.i64_in _ (by omega))) ?_
            refine E.GL.st rfl rfl rfl (E.ST.call rfl ent75 (E.evc rfl (E.evc rfl (E.evc rfl E.evn))) ((least_calls g47 f (x.add o.b) (v + o.f3) _ hLp.mp).mono ?_))
            rintro e w83 ⟨rfl, m83, l83⟩
            refine ⟨_, rfl, ?_⟩
            replace b9 := blk_grown b9 l83 (E.nes (Ne.symm (map_ne hLp.mp b9)))
            replace b12 := blk_grown b12 l83 (E.nes (Ne.symm (map_ne hLp.mp b12)))
            replace b13 := blk_grown b13 l83 (E.nes (Ne.symm (map_ne hLp.mp b13)))
            replace hLp := hLp.filled l83 m83
            refine E.GL.done ?_
            refine E.QG.block_normal ?_
            refine E.QG.code ?_
            refine E.CG.list ?_
            refine E.GL.run rfl rfl rfl (E.Runs.add rfl rfl rfl (IntWalk.i64_in _ (by omega))) ?_
            refine E.GL.run rfl rfl rfl (E.Runs.move rfl rfl) ?_
            refine E.GL.done ?_
            exact E.QG.round (k + 1) (E.subc rfl (E.subc rfl (E.subc rfl (E.subc rfl (E.subc rfl (E.subc rfl (E.subc rfl (E.subc rfl (E.subc rfl (E.subc rfl (E.subc rfl (E.subc rfl (E.subc rfl E.subn))))))))))))) ⟨by omega, b9, _, hLp, (by first | exact nk_yes ho h76 hMn | exact nk_no ho h76 hMn | fail)⟩ (by omega)
          · refine E.GH.one (i := 5) (by kernel_rfl) rfl ?_
            refine E.GO.st rfl rfl rfl (E.ST.call rfl ent74 (E.evc rfl (E.evc rfl E.evn)) ((fits_calls (x.add o.b) (bl V.qs) false (iff_of_false Bool.false_ne_true h76) _).mono ?_))
            rintro e w76 ⟨rfl, l76⟩
            refine ⟨_, rfl, hh.trans (E.gbB l76), ?_⟩
            replace hh := hh.trans (E.gbB l76)
            replace b9 := blk_below b9 l76
            replace b12 := blk_below b12 l76
            replace b13 := blk_below b13 l76
            replace hLp := hLp.below l76
            refine E.GH.done (by kernel_rfl) ?_
            refine E.QG.code ?_
            refine E.CG.cond_f rfl ?_
            refine E.CG.skip ?_
            refine E.QG.block_normal ?_
            refine E.QG.code ?_
            refine E.CG.list ?_
            refine E.GL.run rfl rfl rfl (E.Runs.add rfl rfl rfl (IntWalk.i64_in _ (by omega))) ?_
            refine E.GL.run rfl rfl rfl (E.Runs.move rfl rfl) ?_
            refine E.GL.done ?_
            exact E.QG.round (k + 1) (E.subc rfl (E.subc rfl (E.subc rfl (E.subc rfl (E.subc rfl (E.subc rfl (E.subc rfl (E.subc rfl (E.subc rfl (E.subc rfl (E.subc rfl (E.subc rfl (E.subc rfl E.subn))))))))))))) ⟨by omega, b9, _, hLp, (by first | exact nk_yes ho h76 hMn | exact nk_no ho h76 hMn | fail)⟩ (by omega)
        · refine E.GL.done ?_
          refine E.QG.code ?_
          refine E.CG.seq ?_
          refine E.CG.cond_f rfl ?_
          refine E.CG.exit ?_
          refine E.QG.pass_exit ?_
          refine E.QG.pass_exit ?_
          refine E.QG.block_here ?_
          refine E.QG.block_normal ?_
          exact E.QG.round2 (g := S) (d := n) (S ++ [x]) n' (E.subc rfl (E.subc rfl (E.subc rfl (E.subc rfl (E.subc rfl (E.subc rfl (E.subc rfl (E.subc rfl E.subn)))))))) ⟨f, hLp, nx_more (by omega) hx hMn⟩ hn'
    · obtain rfl : i = V.cs.length := by omega
      refine E.GL.done ?_
      refine E.QG.code ?_
      refine E.CG.seq ?_
      refine E.CG.cond_f rfl ?_
      refine E.CG.exit ?_
      refine E.QG.pass_exit ?_
      refine E.QG.pass_exit ?_
      refine E.QG.block_here ?_
      refine E.QG.code ?_
      refine E.CG.seq ?_
      refine E.CG.list ?_
      refine E.GL.run rfl rfl rfl (E.Runs.fieldAddr rfl rfl hu25 rfl (by assumption) rfl) ?_
      refine E.GL.run rfl rfl rfl (E.Runs.load1 rfl rfl hu23 rfl (by first | assumption | exact E.blkc (by assumption) rfl | exact pw_cell_below L (by assumption))) ?_
      refine E.GL.run rfl rfl rfl (E.Runs.len rfl rfl hu23) ?_
      refine E.GL.run rfl rfl rfl (E.Runs.assign rfl rfl) ?_
      refine E.GL.done ?_
      refine E.QG.code ?_
      refine E.CG.seq ?_
      refine E.CG.seq ?_
      obtain ⟨gb2, hgb21, hgb20, hgb22⟩ := hG.at_ hGn (show V.cs.length < G.length by omega)
      obtain ⟨adB2, eAB2, XB2⟩ := sc_at (Kd.R_reads' RB).2.2 hgb21
      refine E.CG.quietF (by kernel_rfl) rfl (by kernel_rfl) (by kernel_rfl) ?_
      refine E.GQ.run rfl rfl rfl (E.Runs.move rfl rfl) ?_
      refine E.GQ.run rfl rfl rfl (E.Runs.nilCheck rfl rfl) ?_
      refine E.GQ.run rfl rfl rfl (E.Runs.fieldAddr rfl rfl hu89 rfl (by assumption) rfl) ?_
      refine E.GQ.run rfl rfl rfl (E.Runs.load1 rfl rfl hu87 rfl (by first | assumption | exact E.blkc (by assumption) rfl | exact pw_cell_below L (by assumption))) ?_
      refine E.GQ.run rfl rfl rfl (E.Runs.move rfl rfl) ?_
      refine E.GQ.run rfl rfl rfl (E.Runs.indexAddrA (i := V.cs.length) rfl rfl rfl hu87 z91 o91 (by omega) eAB2 rfl) ?_
      refine E.GQ.run rfl rfl rfl (E.Runs.load1 rfl rfl hu91 rfl XB2) ?_
      refine E.GQ.run rfl rfl rfl (E.Runs.move rfl rfl) ?_
      refine E.GQ.run rfl rfl rfl (E.Runs.nilCheck rfl rfl) ?_
      refine E.GQ.run rfl rfl rfl (E.Runs.fieldAddr rfl rfl hu89 rfl (by assumption) rfl) ?_
      refine E.GQ.run rfl rfl rfl (E.Runs.loads (cs := [.int .i64 (bl V.qs).f0, .int .i64 (bl V.qs).f1, .int .i64 (bl V.qs).f2]) rfl rfl hu59 rfl info59s (mid89 b4)) ?_
      rcases hfs : F V.cs.length (bl V.qs) with _ | m0
      · refine E.GQ.run rfl rfl rfl (E.Runs.lookupF rfl rfl kBT rfl hu91 zero3I hgb22 (show _ = Value.tuple #[.int .i64 0, .bool false] from by simp [hfs])) ?_
        refine E.GQ.run rfl rfl rfl (E.Runs.move rfl rfl) ?_
        refine E.GQ.run rfl rfl rfl (E.Runs.extract rfl rfl rfl) ?_
        refine E.GQ.run rfl rfl rfl (E.Runs.extract rfl rfl rfl) ?_
        refine E.GQ.run rfl rfl rfl (E.Runs.assign rfl rfl) ?_
        refine E.GQ.run rfl rfl rfl (E.Runs.assign rfl rfl) ?_
        refine E.GQ.doneB fun v22 lD => ?_
        replace b1 := blk_below b1 lD
        replace b4 := blk_below b4 lD
        replace RC := Kd.R_below RC lD
        replace RB := Kd.R_below RB lD
        replace hC := hC.below lD
        replace hG := hG.below lD
        replace L := below_step L lD
        have lD22 := lD
        clear lD
        skip
        refine E.QG.code ?_
        refine E.CG.seq ?_
        refine E.CG.list ?_
        refine E.GL.run rfl rfl rfl (E.Runs.move rfl rfl) ?_
        refine E.GL.run rfl rfl rfl (E.Runs.not rfl rfl) ?_
        refine E.GL.done ?_
        refine E.QG.code ?_
        refine E.CG.cond_t rfl ?_
        refine E.CG.seq ?_
        refine E.CG.list ?_
        refine E.GL.run rfl rfl rfl (E.Runs.assign rfl rfl) ?_
        refine E.GL.run rfl rfl rfl (E.Runs.assign rfl rfl) ?_
        refine E.GL.done ?_
        refine E.QG.code ?_
        refine E.CG.ret ?_
        refine E.QG.pass_ret ?_
        exact E.QG.result2 rfl rfl rfl ⟨_, _, rfl, .inr (.inl ⟨ok, few_none (hF V.cs.length (Nat.le_refl _)) hfs, rfl, rfl⟩), L⟩
      · refine E.GQ.run rfl rfl rfl (E.Runs.lookupF rfl rfl kBT rfl hu91 zero3I hgb22 (show _ = Value.tuple #[.int .i64 m0, .bool true] from by simp [hfs])) ?_
        refine E.GQ.run rfl rfl rfl (E.Runs.move rfl rfl) ?_
        refine E.GQ.run rfl rfl rfl (E.Runs.extract rfl rfl rfl) ?_
        refine E.GQ.run rfl rfl rfl (E.Runs.extract rfl rfl rfl) ?_
        refine E.GQ.run rfl rfl rfl (E.Runs.assign rfl rfl) ?_
        refine E.GQ.run rfl rfl rfl (E.Runs.assign rfl rfl) ?_
        refine E.GQ.doneB fun v22 lD => ?_
        replace b1 := blk_below b1 lD
        replace b4 := blk_below b4 lD
        replace RC := Kd.R_below RC lD
        replace RB := Kd.R_below RB lD
        replace hC := hC.below lD
        replace hG := hG.below lD
        replace L := below_step L lD
        have lD22 := lD
        clear lD
        skip
        refine E.QG.code ?_
        refine E.CG.seq ?_
        refine E.CG.list ?_
        refine E.GL.run rfl rfl rfl (E.Runs.move rfl rfl) ?_
        refine E.GL.run rfl rfl rfl (E.Runs.not rfl rfl) ?_
        refine E.GL.done ?_
        refine E.QG.code ?_
        refine E.CG.cond_f rfl ?_
        refine E.CG.skip ?_
        refine E.QG.code ?_
        refine E.CG.seq ?_
        refine E.CG.list ?_
        refine E.GL.run rfl rfl rfl (E.Runs.move rfl rfl) ?_
        refine E.GL.run rfl rfl rfl (E.Runs.move rfl rfl) ?_
        refine E.GL.run rfl rfl rfl (E.Runs.add rfl rfl rfl (IntWalk.i64_in _ (by omega))) ?_
        refine E.GL.st rfl rfl rfl (E.ST.makeR kG w.heap.size 91 rfl rfl (m := V.cs.length + 1) (by push_cast; rfl) (by push_cast; rfl) hu87 (.map none) 8 info91b rfl (by decide) (by decide) none rfl (by have := ok.c4; omega) L L.size fun v129 w129 r129 k129 l129 o129 => ?_)
        have hap : ∀ k, (Value.slice Ab G.length cb).ownBlock = some k → v129.ownBlock ≠ some k := fun k e1 e2 => by
          obtain ⟨q, o1, o2⟩ := o129
          have := Kd.R_lt RB k e1
          rw [o1] at e2
          injection e2 with e2
          omega
        replace L := k129
        clear k129 o129
        replace b1 := blk_below b1 l129
        replace b4 := blk_below b4 l129
        replace RC := Kd.R_below RC l129
        replace RB := Kd.R_below RB l129
        replace hC := hC.below l129
        replace hG := hG.below l129
        obtain ⟨Aa, ca, hv129⟩ := Kd.R_slice r129
        rw [List.length_replicate] at hv129
        subst hv129
        have RA := r129
        clear r129 l129
        refine E.GL.run rfl rfl rfl (E.Runs.nilCheck rfl rfl) ?_
        refine E.GL.run rfl rfl rfl (E.Runs.fieldAddr rfl rfl hu89 rfl (by assumption) rfl) ?_
        refine E.GL.sn rfl rfl (E.ST.storeSl (cs := cells89 V m (.slice Ac C.length cc) (.slice Ab G.length cb) (.slice none 0 0)) rfl z87 o87 rfl rfl b4 rfl rfl fun w25 c4 l25 => ?_)
        replace b1 := blk_grown b1 l25 (E.nes (blk_ne b1 b4 (by decide)))
        replace RC := Kd.R_grown1 RC rfl l25 (Kd.R_ne RC b4 (by decide))
        replace RB := Kd.R_grown1 RB rfl l25 (Kd.R_ne RB b4 (by decide))
        replace RA := Kd.R_grown1 RA rfl l25 (Kd.R_ne RA b4 (by decide))
        replace hC := hC.grown l25 (oth b4 (by decide))
        replace hG := hG.grown l25 (oth b4 (by decide))
        replace L := E.below_own L h4_L l25
        replace b4 := c4
        clear c4 l25
        refine E.GL.done ?_
        refine E.QG.code ?_
        refine E.CG.seq ?_
        refine E.CG.heldJ 13 (fun v W => W.heap[g4]? = v.heap[g4]?) (fun _ _ => True) (by kernel_rfl) (by kernel_rfl) (fun v => rfl) fun v26 lD => ?_
        replace b1 := blk_below b1 lD
        replace b4 := blk_below b4 lD
        replace RC := Kd.R_below RC lD
        replace RB := Kd.R_below RB lD
        replace RA := Kd.R_below RA lD
        replace hC := hC.below lD
        replace hG := hG.below lD
        replace L := below_step L lD
        clear lD
        have s_b4 := b4
        refine E.GJ.take1 (i := 0) rfl (by kernel_rfl) (by kernel_rfl) (by kernel_rfl) (by kernel_rfl) rfl (by kernel_rfl) (by kernel_rfl) (by intro c a d v w h; first | (cases d <;> exact h) | exact nomatch (show _ ∧ _ from h).1) rfl rfl rfl (fun w' hS => (E.Runs.move rfl rfl)) ?_
        refine E.GJ.take1 (i := 1) rfl (by kernel_rfl) (by kernel_rfl) (by kernel_rfl) (by kernel_rfl) rfl (by kernel_rfl) (by kernel_rfl) (by intro c a d v w h; first | (cases d <;> exact h) | exact nomatch (show _ ∧ _ from h).1) rfl rfl rfl (fun w' hS => (E.Runs.nilCheck rfl rfl)) ?_
        refine E.GJ.take1 (i := 2) rfl (by kernel_rfl) (by kernel_rfl) (by kernel_rfl) (by kernel_rfl) rfl (by kernel_rfl) (by kernel_rfl) (by intro c a d v w h; first | (cases d <;> exact h) | exact nomatch (show _ ∧ _ from h).1) rfl rfl rfl (fun w' hS => (E.Runs.fieldAddr rfl rfl hu89 rfl (by assumption) rfl)) ?_
        refine E.GJ.take1 (i := 3) rfl (by kernel_rfl) (by kernel_rfl) (by kernel_rfl) (by kernel_rfl) rfl (by kernel_rfl) (by kernel_rfl) (by intro c a d v w h; first | (cases d <;> exact h) | exact nomatch (show _ ∧ _ from h).1) rfl rfl rfl (fun w' hS => (E.Runs.load1 rfl rfl hu87 rfl (E.blkc (hS.trans s_b4) rfl))) ?_
        refine E.GJ.take1 (i := 4) rfl (by kernel_rfl) (by kernel_rfl) (by kernel_rfl) (by kernel_rfl) rfl (by kernel_rfl) (by kernel_rfl) (by intro c a d v w h; first | (cases d <;> exact h) | exact nomatch (show _ ∧ _ from h).1) rfl rfl rfl (fun w' hS => (E.Runs.move rfl rfl)) ?_
        refine E.GJ.take1 (i := 6) rfl (by kernel_rfl) (by kernel_rfl) (by kernel_rfl) (by kernel_rfl) rfl (by kernel_rfl) (by kernel_rfl) (by intro c a d v w h; first | (cases d <;> exact h) | exact nomatch (show _ ∧ _ from h).1) rfl rfl rfl (fun w' hS => (E.Runs.move rfl rfl)) ?_
        refine E.GJ.take1 (i := 7) rfl (by kernel_rfl) (by kernel_rfl) (by kernel_rfl) (by kernel_rfl) rfl (by kernel_rfl) (by kernel_rfl) (by intro c a d v w h; first | (cases d <;> exact h) | exact nomatch (show _ ∧ _ from h).1) rfl rfl rfl (fun w' hS => (E.Runs.nilCheck rfl rfl)) ?_
        refine E.GJ.take1 (i := 8) rfl (by kernel_rfl) (by kernel_rfl) (by kernel_rfl) (by kernel_rfl) rfl (by kernel_rfl) (by kernel_rfl) (by intro c a d v w h; first | (cases d <;> exact h) | exact nomatch (show _ ∧ _ from h).1) rfl rfl rfl (fun w' hS => (E.Runs.fieldAddr rfl rfl hu89 rfl (by assumption) rfl)) ?_
        refine E.GJ.take1 (i := 9) rfl (by kernel_rfl) (by kernel_rfl) (by kernel_rfl) (by kernel_rfl) rfl (by kernel_rfl) (by kernel_rfl) (by intro c a d v w h; first | (cases d <;> exact h) | exact nomatch (show _ ∧ _ from h).1) rfl rfl rfl (fun w' hS => (E.Runs.loads (cs := [.int .i64 (bl V.qs).f0, .int .i64 (bl V.qs).f1, .int .i64 (bl V.qs).f2]) rfl rfl hu59 rfl info59s (mid89 (hS.trans s_b4)))) ?_
        refine E.GJ.one (i := 5) (by kernel_rfl) (E.OJ.st rfl rfl rfl rfl (E.ST.makeMap bv evI rfl fun g137 w137 e137 m137 l137 => ⟨(E.SJ.before (by kernel_rfl)).mpr ((blk_below b4 l137).trans s_b4.symm), ?_⟩))
        have hgz : w.heap.size ≤ g137 := by rw [e137]; exact L.size
        have hfr : ∀ j, G[j]? ≠ some (some g137) := fun j e => by have := hG.lt e; omega
        replace b1 := blk_below b1 l137
        replace b4 := blk_below b4 l137
        replace RC := Kd.R_below RC l137
        replace RB := Kd.R_below RB l137
        replace RA := Kd.R_below RA l137
        replace hC := hC.below l137
        replace hG := hG.below l137
        replace L := below_step L l137
        refine E.GJ.one (i := 10) (by kernel_rfl) (E.OJ.sn rfl rfl rfl (E.ST.insert rfl rfl kBT (bl V.qs) rfl rfl hu91 m137 fun wI mI lI => ⟨(E.SJ.before (by kernel_rfl)).mpr ((blk_grown b4 lI (E.nes (Ne.symm (map_ne m137 b4)))).trans s_b4.symm), ?_⟩))
        replace b1 := blk_grown b1 lI (E.nes (Ne.symm (map_ne m137 b1)))
        replace b4 := blk_grown b4 lI (E.nes (Ne.symm (map_ne m137 b4)))
        replace RC := Kd.R_grown1 RC rfl lI (map_row RC m137)
        replace RB := Kd.R_grown1 RB rfl lI (map_row RB m137)
        replace RA := Kd.R_grown1 RA rfl lI (map_row RA m137)
        replace hC := hC.mapped lI m137
        replace hG := hG.mapped lI hfr
        replace L := E.below_own L hgz lI
        replace m137 := mI
        clear mI
        obtain ⟨gK, eK, hgK, cK, fK, ⟨_, bK⟩, stK⟩ := rowG_at RA (i := V.cs.length) (x := none) (by simp)
        refine E.GJ.take1 (i := 11) rfl (by kernel_rfl) (by kernel_rfl) (by kernel_rfl) (by kernel_rfl) rfl (by kernel_rfl) (by kernel_rfl) (by intro c a d v w h; first | (cases d <;> exact h) | exact nomatch (show _ ∧ _ from h).1) rfl rfl rfl (fun w' hS => (E.Runs.move rfl rfl)) ?_
        refine E.GJ.take1 (i := 12) rfl (by kernel_rfl) (by kernel_rfl) (by kernel_rfl) (by kernel_rfl) rfl (by kernel_rfl) (by kernel_rfl) (by intro c a d v w h; first | (cases d <;> exact h) | exact nomatch (show _ ∧ _ from h).1) rfl rfl rfl (fun w' hS => (E.Runs.indexAddrA (i := V.cs.length) rfl rfl rfl hu87 z91 o91 (by omega) eK (show _ = (⟨gK, V.cs.length * 1, none⟩ : Addr) from by rw [Go.Addr.add_mid, Nat.zero_add]))) ?_
        refine E.GJ.one (i := 13) (by kernel_rfl) (E.OJ.sn rfl rfl rfl (E.ST.storeXC rfl z91 o91 rfl rfl (.inr ⟨_, rfl⟩) cK fK ⟨(E.SJ.behind (by kernel_rfl)).mpr trivial, ?_⟩))
        obtain ⟨wK, hwK, RK, gK'⟩ := stK (some g137)
        rw [← hwK]
        replace b1 := blk_grown b1 gK' (E.nes (blk_ne b1 bK (by decide)))
        replace b4 := blk_grown b4 gK' (E.nes (blk_ne b4 bK (by decide)))
        replace RC := over_blk RC bK (by decide) rfl gK'
        replace RB := Kd.R_grown1 RB rfl gK' (fun e => hap gK e.symm (by rw [eK]; rfl))
        replace hC := hC.grown gK' (oth bK (by decide))
        replace hG := hG.grown gK' (oth bK (by decide))
        replace m137 := m137.grown gK' (fun e => by injection e with e; exact map_ne m137 bK e)
        replace L := E.below_own L hgK gK'
        clear RA
        refine E.GJ.done (by kernel_rfl) ?_
        refine E.QG.code ?_
        refine E.CG.seq ?_
        refine E.CG.seq ?_
        refine E.CG.list ?_
        refine E.GL.run rfl rfl rfl (E.Runs.move rfl rfl) ?_
        refine E.GL.run rfl rfl rfl (E.Runs.sub rfl rfl rfl (IntWalk.i64_in _ (by omega))) ?_
        refine E.GL.run rfl rfl rfl (E.Runs.assign rfl rfl) ?_
        refine E.GL.done ?_
        refine E.QG.code ?_
        refine E.CG.block ?_
        have s28_b1 := b1
        have s28_b4 := b4
        have s28_L := L
        refine E.CG.loop (fun (j : Nat) => [(4, .pointer (some ⟨g4, 0, none⟩)), (17, .int .i64 ((j : Int) - 1))]) (fun j w' => j ≤ V.cs.length ∧ ∃ (D : List (Option Nat)) (Fa : Nat → Bl → Option Int), w'.heap[g4]? = some (.cells (cells89 V m (.slice Ac C.length cc) (.slice Ab G.length cb) (.slice Aa (V.cs.length + 1) ca)).toArray 89 (0, 0)) ∧ Kd.R kH 72 w' w.heap.size (fun _ => True) (.slice Ac C.length cc) C ∧ Kd.R kG 91 w' w.heap.size (fun _ => True) (.slice Ab G.length cb) G ∧ Kd.R kG 91 w' w.heap.size (fun _ => True) (.slice Aa (V.cs.length + 1) ca) D ∧ D.length = V.cs.length + 1 ∧ HC w w' V C ∧ HG w w' G F ∧ HG w w' D Fa ∧ (∀ k, j ≤ k → k ≤ V.cs.length → ∃ g, D[k]? = some (some g) ∧ IsA V k (Fa k)) ∧ (∀ k, k < j → D[k]? = some none) ∧ Below w.heap.size w w') (fun j => j) V.cs.length (E.subc rfl (E.subc rfl E.subn)) ⟨Nat.le_refl _, (List.replicate (V.cs.length + 1) none).set V.cs.length (some g137), fun _ => E.upd (fun _ => none) (bl V.qs) 0, b4, RC, RB, RK, by simp, hC, hG, d0_hg m137 hgz, fun k q1 q2 => d0_is q1 q2, fun k q => d0_none q, L⟩ ?_
        rintro j w28 ⟨hj, D, Fa, b4, RC, RB, RA, hDl, hC, hG, hD, hDs, hDn, L⟩
        refine E.CG.seq ?_
        refine E.CG.seq ?_
        refine E.CG.list ?_
        refine E.GL.run rfl rfl rfl (E.Runs.move rfl rfl) ?_
        refine E.GL.cmp rfl rfl rfl (fun _ h => (E.Runs.geq rfl rfl rfl h)) (fun h147 => ?_) (fun h147 => ?_)
        · obtain ⟨i, rfl⟩ : ∃ i, j = i + 1 := ⟨j - 1, by omega⟩
          rw [show (((i + 1 : Nat) : Int) - 1) = (i : Int) from by omega]
          obtain ⟨c, hc⟩ := get_ex (show i < V.cs.length by omega)
          have hcok := ok.c c (List.mem_of_getElem? hc)
          have hct := ct_of hc
          have hcl := chs_len ok hcok
          refine E.GL.done ?_
          refine E.QG.code ?_
          refine E.CG.cond_t rfl ?_
          refine E.CG.skip ?_
          refine E.QG.code ?_
          refine E.CG.seq ?_
          refine E.CG.block ?_
          refine E.CG.seq ?_
          refine E.CG.list ?_
          refine E.GL.run rfl rfl rfl (E.Runs.move rfl rfl) ?_
          refine E.GL.run rfl rfl rfl (E.Runs.nilCheck rfl rfl) ?_
          refine E.GL.run rfl rfl rfl (E.Runs.fieldAddr rfl rfl hu89 rfl (by assumption) rfl) ?_
          refine E.GL.run rfl rfl rfl (E.Runs.load1 rfl rfl hu87 rfl (by first | assumption | exact E.blkc (by assumption) rfl | exact pw_cell_below L (by assumption))) ?_
          refine E.GL.run rfl rfl rfl (E.Runs.move rfl rfl) ?_
          refine E.GL.st rfl rfl rfl (E.ST.makeMap bv evI rfl fun g155 w155 e155 m155 l155 => ?_)
          have hgz : w.heap.size ≤ g155 := by rw [e155]; exact L.size
          have hfr : ∀ j, G[j]? ≠ some (some g155) := fun j e => by have := hG.lt e; omega
          have hfd : ∀ j, D[j]? ≠ some (some g155) := fun j e => by have := hD.lt e; omega
          replace b4 := blk_below b4 l155
          replace RC := Kd.R_below RC l155
          replace RB := Kd.R_below RB l155
          replace RA := Kd.R_below RA l155
          replace hC := hC.below l155
          replace hG := hG.below l155
          replace hD := hD.below l155
          replace L := below_step L l155
          obtain ⟨gK, eK, hgK, cK, fK, ⟨_, bK⟩, stK⟩ := rowG_at RA (hDn i (by omega))
          refine E.GL.run rfl rfl rfl (E.Runs.indexAddrA (i := i) rfl rfl rfl hu87 z91 o91 (by omega) eK (show _ = (⟨gK, i * 1, none⟩ : Addr) from by rw [Go.Addr.add_mid, Nat.zero_add])) ?_
          refine E.GL.sn rfl rfl (E.ST.storeXC rfl z91 o91 rfl rfl (.inr ⟨_, rfl⟩) cK fK ?_)
          obtain ⟨wK, hwK, RK, gK'⟩ := stK (some g155)
          rw [← hwK]
          replace b4 := blk_grown b4 gK' (E.nes (blk_ne b4 bK (by decide)))
          replace RC := over_blk RC bK (by decide) rfl gK'
          replace RB := Kd.R_grown1 RB rfl gK' (fun e => hap gK e.symm (by rw [eK]; rfl))
          replace hC := hC.grown gK' (oth bK (by decide))
          replace hG := hG.grown gK' (oth bK (by decide))
          replace hD := hD.grown gK' (oth bK (by decide))
          replace m155 := m155.grown gK' (fun e => by injection e with e; exact map_ne m155 bK e)
          replace L := E.below_own L hgK gK'
          clear RA
          have RA := RK
          clear RK
          refine E.GL.done ?_
          refine E.QG.code ?_
          refine E.CG.seq ?_
          obtain ⟨gb, hgb1, hgb0, hgb2⟩ := hG.at_ hGn (show i < G.length by omega)
          have hgb := hG.lt hgb1
          have hne : gb ≠ g155 := fun e => hfr i (e ▸ hgb1)
          obtain ⟨adB, eAB, XB⟩ := sc_at (Kd.R_reads' RB).2.2 hgb1
          refine E.CG.list ?_
          refine E.GL.run rfl rfl rfl (E.Runs.move rfl rfl) ?_
          refine E.GL.run rfl rfl rfl (E.Runs.nilCheck rfl rfl) ?_
          refine E.GL.run rfl rfl rfl (E.Runs.fieldAddr rfl rfl hu89 rfl (by assumption) rfl) ?_
          refine E.GL.run rfl rfl rfl (E.Runs.load1 rfl rfl hu87 rfl (by first | assumption | exact E.blkc (by assumption) rfl | exact pw_cell_below L (by assumption))) ?_
          refine E.GL.run rfl rfl rfl (E.Runs.move rfl rfl) ?_
          refine E.GL.run rfl rfl rfl (E.Runs.indexAddrA (i := i) rfl rfl rfl hu87 z91 o91 (by omega) eAB rfl) ?_
          refine E.GL.run rfl rfl rfl (E.Runs.load1 rfl rfl hu91 rfl XB) ?_
          have b4N := b4
          have RCN := RC
          have RBN := RB
          have RAN := RA
          have hCN := hC
          have hGN := hG
          have hDN := hD
          have LN := L
          have mN0 := m155
          refine E.GL.st rfl rfl rfl (E.ST.range rfl rfl hu91 hgb2 fun r164 w164 n164 e164 it164 l164 => ?_)
          have hLq : Lq wK w164 g155 r164 gb (F i) (fun _ => none) [] n164 := ⟨E.gbB l164, it164, m155.below l164, by rw [e164]; exact Nat.le_refl _, m155.lt, hgb, hne⟩
          clear b4 RC RB RA hC hG hD L m155 it164 l164
          refine E.GL.done ?_
          refine E.QG.code ?_
          refine E.CG.block ?_
          refine E.CG.loop2 (fun (S : List Bl) (n : Nat) => [(4, .pointer (some ⟨g4, 0, none⟩)), (17, .int .i64 (i : Int)), (164, .pointer (some ⟨r164, 0, none⟩))]) (fun S n w' => (∀ b ∈ S, F i b ≠ none) ∧ ∃ f, Lq wK w' g155 r164 gb (F i) f S n ∧ ∀ c', Mn (fun y => (c' ∈ S ∧ ∃ o ∈ chs V c, ∃ m, Fa (i + 1) (c'.add o.b) = some m ∧ y = m + o.f3)) (f c')) (fun S n => n) [] n164 (E.subc rfl (E.subc rfl (E.subc rfl E.subn))) ⟨fun b hb => (by cases hb), _, hLq, fun c' y h => (by cases h.1)⟩ ?_
          rintro S n w32 ⟨hSd, f, hLq, hMn⟩
          refine E.CG.seq ?_
          refine E.CG.list ?_
          refine E.GL.st rfl rfl rfl (E.ST.next rfl rfl kBT hLq.it (fun hall => ?_) (fun x v w165 n' hx hxS hn' it165 mJ l165 => ?_))
          · refine E.GL.run rfl rfl rfl (E.Runs.extract rfl rfl rfl) ?_
            refine E.GL.done ?_
            refine E.QG.code ?_
            refine E.CG.seq ?_
            refine E.CG.cond_f rfl ?_
            refine E.CG.exit ?_
            refine E.QG.pass_exit ?_
            refine E.QG.pass_exit ?_
            refine E.QG.block_here ?_
            refine E.QG.block_normal ?_
            refine E.QG.code ?_
            have b4 := blk_grown b4N hLq.k (E.nes (Ne.symm (map_ne mN0 b4N)))
            have RA := Kd.R_grown1 RAN rfl hLq.k (map_row RAN mN0)
            have RC := Kd.R_grown1 RCN rfl hLq.k (map_row RCN mN0)
            have RB := Kd.R_grown1 RBN rfl hLq.k (map_row RBN mN0)
            have hC := hCN.mapped hLq.k mN0
            have hG := hGN.mapped hLq.k hfr
            have hD := (hDN.mapped hLq.k hfd).set hLq.mp hgz (show i < D.length by omega)
            have L := E.below_own LN hgz hLq.k
            obtain ⟨gq, hgq, hIA⟩ := hDs (i + 1) (by omega) (by omega)
            have hIAi : IsA V i f := IsA_next ok (by omega) (hF i (by omega)) hIA (fun b => (hMn b).congr fun y => by
              rw [hct]
              constructor
              · rintro ⟨a, r⟩
                exact ⟨hSd b a, r⟩
              · rintro ⟨a, r⟩
                cases hq : F i b with
                | none => exact absurd hq a
                | some m => exact ⟨hall b m hq, r⟩)
            refine E.CG.list ?_
            refine E.GL.run rfl rfl rfl (E.Runs.move rfl rfl) ?_
            refine E.GL.run rfl rfl rfl (E.Runs.sub rfl rfl rfl (IntWalk.i64_in _ (by omega))) ?_
            refine E.GL.run rfl rfl rfl (E.Runs.assign rfl rfl) ?_
            refine E.GL.done ?_
            exact E.QG.round i (E.subc rfl (E.subc rfl E.subn)) ⟨by omega, D.set i (some g155), fun j => if j = i then f else Fa j, b4, RC, RB, RA, by simp [hDl], hC, hG, hD, fun k q1 q2 => by
                by_cases e : k = i
                · subst e
                  exact ⟨g155, List.getElem?_set_self (by omega), by simp only [if_true]; exact hIAi⟩
                · obtain ⟨g, h1, h2⟩ := hDs k (by omega) q2
                  exact ⟨g, by rw [List.getElem?_set_ne (Ne.symm e)]; exact h1, by simp only [e, if_false]; exact h2⟩, fun k q => by rw [List.getElem?_set_ne (by omega)]; exact hDn k (by omega), L⟩ (by omega)
          · replace hLq := hLq.stepped l165 it165
            obtain ⟨hsx, hv0, hv2⟩ := isB_small ok (hF i (by omega)) hx
            refine E.GL.run rfl rfl rfl (E.Runs.extract rfl rfl rfl) ?_
            refine E.GL.done ?_
            refine E.QG.code ?_
            refine E.CG.seq ?_
            refine E.CG.cond_t rfl ?_
            refine E.CG.skip ?_
            refine E.QG.code ?_
            refine E.CG.block ?_
            refine E.CG.seq ?_
            refine E.CG.list ?_
            refine E.GL.run rfl rfl rfl (E.Runs.entry rfl rfl mJ) ?_
            refine E.GL.run rfl rfl rfl (E.Runs.extract rfl rfl rfl) ?_
            have hz18 := hLq.k.size
            refine E.GL.st rfl rfl rfl (E.ST.alloc rfl info59z fun g18 w18 e18 b18 l18 => ?_)
            replace hLq := hLq.below l18
            have hs18 : wK.heap.size ≤ g18 := by omega
            refine E.GL.store_whole rfl rfl rfl rfl rfl b18 rfl info59s (bv_one x) fun wS33_3 c18 lS33_3 => ?_
            replace hLq := hLq.grown lS33_3 (by first | exact ⟨hs20, _, _, b20⟩ | exact ⟨hs18, _, _, b18⟩)
            replace b18 := c18
            clear c18
            refine E.GL.done ?_
            refine E.QG.code ?_
            refine E.CG.seq ?_
            have b4 := blk_grown b4N hLq.k (E.nes (Ne.symm (map_ne mN0 b4N)))
            have RC := Kd.R_grown1 RCN rfl hLq.k (map_row RCN mN0)
            obtain ⟨hd, hhd⟩ := get_ex (show i < C.length by omega)
            obtain ⟨adC, eAC, XC⟩ := sc_at (Kd.R_reads' RC).2.2 hhd
            obtain ⟨hdn, hdr⟩ := hCN.row i hd hhd
            rw [hct] at hdn hdr
            refine E.CG.list ?_
            refine E.GL.run rfl rfl rfl (E.Runs.move rfl rfl) ?_
            refine E.GL.run rfl rfl rfl (E.Runs.nilCheck rfl rfl) ?_
            refine E.GL.run rfl rfl rfl (E.Runs.fieldAddr rfl rfl hu89 rfl (by assumption) rfl) ?_
            refine E.GL.run rfl rfl rfl (E.Runs.load1 rfl rfl hu86 rfl (E.blkc b4 rfl)) ?_
            refine E.GL.run rfl rfl rfl (E.Runs.move rfl rfl) ?_
            refine E.GL.run rfl rfl rfl (E.Runs.indexAddrA (i := i) rfl rfl rfl hu86 z72 o72 (by omega) eAC rfl) ?_
            refine E.GL.run rfl rfl rfl (E.Runs.load1 rfl rfl hu72 rfl (show _ = some (Value.slice hd.A hd.n hd.c) from XC)) ?_
            refine E.GL.run rfl rfl rfl (E.Runs.len rfl rfl hu72) ?_
            refine E.GL.run rfl rfl rfl (E.Runs.move rfl rfl) ?_
            refine E.GL.done ?_
            refine E.QG.code ?_
            refine E.CG.block ?_
            have s35_b18 := b18
            refine E.CG.loop (fun (k : Nat) => [(4, .pointer (some ⟨g4, 0, none⟩)), (17, .int .i64 (i : Int)), (164, .pointer (some ⟨r164, 0, none⟩)), (18, .pointer (some ⟨g18, 0, none⟩)), (175, .slice hd.A hd.n hd.c), (176, .int .i64 hd.n), (177, .int .i64 k)]) (fun k w' => k ≤ hd.n ∧ w'.heap[g18]? = some (.cells #[.int .i64 x.f0, .int .i64 x.f1, .int .i64 x.f2] 59 (0, 0)) ∧ ∃ f, Lq wK w' g155 r164 gb (F i) f (S ++ [x]) n' ∧ ∀ c', Mn (fun y => ((c' ∈ S ∧ ∃ o ∈ chs V c, ∃ m, Fa (i + 1) (c'.add o.b) = some m ∧ y = m + o.f3) ∨ (c' = x ∧ ∃ o ∈ (chs V c).take k, ∃ m, Fa (i + 1) (x.add o.b) = some m ∧ y = m + o.f3))) (f c')) (fun k => hd.n - k) 0 (E.subc rfl (E.subc rfl (E.subc rfl (E.subc rfl (E.subc rfl (E.subc rfl (E.subc rfl E.subn))))))) ⟨Nat.zero_le _, b18, f, hLq, fun c' => (hMn c').congr fun y => by simp⟩ ?_
            rintro k w35 ⟨hk, b18, f, hLq, hMn⟩
            refine E.CG.seq ?_
            refine E.CG.list ?_
            refine E.GL.cmp rfl rfl rfl (fun _ h => (E.Runs.lss rfl rfl rfl h)) (fun h178 => ?_) (fun h178 => ?_)
            · have hRL : Kd.R k69 69 _ w.heap.size (fun _ => True) (.slice hd.A hd.n hd.c) (chs V c) := Kd.R_grown1 hdr rfl hLq.k (map_row hdr mN0)
              obtain ⟨o, ho⟩ := get_ex (show k < (chs V c).length by omega)
              obtain ⟨ao, eO, XO⟩ := ch_at (Kd.R_reads' hRL).2.2 ho
              obtain ⟨wb, hwb, hob⟩ := (mem_chs ok.n1 ok.n3 hcok.2.2.2.2.2.2.2.1).mp (List.mem_of_getElem? ho)
              have hso : SmallB o.b 20 := by rw [hob]; exact way_small hwb hcok.2.2.2.2.2.2.2.2
              have hof := fl_01 V c wb
              have hof3 : o.f3 = fl V c wb := by rw [hob]; rfl
              refine E.GL.done ?_
              refine E.QG.code ?_
              refine E.CG.seq ?_
              refine E.CG.cond_t rfl ?_
              refine E.CG.skip ?_
              refine E.QG.code ?_
              refine E.CG.seq ?_
              refine E.CG.block ?_
              refine E.CG.seq ?_
              refine E.CG.list ?_
              refine E.GL.run rfl rfl rfl (E.Runs.indexAddrA (i := k) rfl rfl rfl hu72 z69 o69 (by omega) eO rfl) ?_
              refine E.GL.run rfl rfl rfl (E.Runs.loads (cs := [.int .i64 o.f0, .int .i64 o.f1, .int .i64 o.f2, .int .i64 o.f3]) rfl rfl hu69 rfl info69s (fun j v hv => XO j v hv)) ?_
              have hz20 := hLq.k.size
              refine E.GL.st rfl rfl rfl (E.ST.alloc rfl info69z fun g20 w20 e20 b20 l20 => ?_)
              have n20_b18 : g18 ≠ g20 := by have := blk_lt b18; omega
              replace b18 := blk_below b18 l20
              replace hLq := hLq.below l20
              have hs20 : wK.heap.size ≤ g20 := by omega
              refine E.GL.store_whole rfl rfl rfl rfl rfl b20 rfl info69s (four_one' _ _ _ _) fun wS36_3 c20 lS36_3 => ?_
              replace b18 := blk_grown b18 lS36_3 (E.nes (by first | assumption | exact Ne.symm (by assumption)))
              replace hLq := hLq.grown lS36_3 (by first | exact ⟨hs20, _, _, b20⟩ | exact ⟨hs18, _, _, b18⟩)
              replace b20 := c20
              clear c20
              refine E.GL.done ?_
              refine E.QG.code ?_
              refine E.CG.seq ?_
              refine E.CG.heldH (none) (by kernel_rfl) fun v37 lD hh => ?_
              replace b18 := blk_below b18 lD
              replace b20 := blk_below b20 lD
              replace hLq := hLq.below lD
              clear lD
              have s_b18 := b18
              have s_b20 := b20
              have s_hLq := hLq
              have b4 := blk_grown b4N hLq.k (E.nes (Ne.symm (map_ne mN0 b4N)))
              have RA := Kd.R_grown1 RAN rfl hLq.k (map_row RAN mN0)
              obtain ⟨gq, hgq, hIA⟩ := hDs (i + 1) (by omega) (by omega)
              have hDi : (D.set i (some g155))[i + 1]? = some (some gq) := by rw [List.getElem?_set_ne (by omega)]; exact hgq
              obtain ⟨adA, eAA, XA⟩ := sc_at (Kd.R_reads' RA).2.2 hDi
              have mq := ((hDN.mapped hLq.k hfd).mp (i + 1) gq hgq).2
              refine E.GH.take (i := 0) rfl (by kernel_rfl) (by kernel_rfl) (by kernel_rfl) (by intro c a d v w h; first | (cases d <;> exact h) | exact nomatch (show _ ∧ _ from h).1) rfl rfl rfl (fun w' hS => (E.Runs.move rfl rfl)) ?_
              refine E.GH.take (i := 1) rfl (by kernel_rfl) (by kernel_rfl) (by kernel_rfl) (by intro c a d v w h; first | (cases d <;> exact h) | exact nomatch (show _ ∧ _ from h).1) rfl rfl rfl (fun w' hS => (E.Runs.nilCheck rfl rfl)) ?_
              refine E.GH.take (i := 2) rfl (by kernel_rfl) (by kernel_rfl) (by kernel_rfl) (by intro c a d v w h; first | (cases d <;> exact h) | exact nomatch (show _ ∧ _ from h).1) rfl rfl rfl (fun w' hS => (E.Runs.fieldAddr rfl rfl hu89 rfl (by assumption) rfl)) ?_
              refine E.GH.take (i := 3) rfl (by kernel_rfl) (by kernel_rfl) (by kernel_rfl) (by intro c a d v w h; first | (cases d <;> exact h) | exact nomatch (show _ ∧ _ from h).1) rfl rfl rfl (fun w' hS => (E.Runs.load1 rfl rfl hu87 rfl (E.keeps hS (E.blkc b4 rfl) E.nen))) ?_
              refine E.GH.take (i := 4) rfl (by kernel_rfl) (by kernel_rfl) (by kernel_rfl) (by intro c a d v w h; first | (cases d <;> exact h) | exact nomatch (show _ ∧ _ from h).1) rfl rfl rfl (fun w' hS => (E.Runs.move rfl rfl)) ?_
              refine E.GH.take (i := 5) rfl (by kernel_rfl) (by kernel_rfl) (by kernel_rfl) (by intro c a d v w h; first | (cases d <;> exact h) | exact nomatch (show _ ∧ _ from h).1) rfl rfl rfl (fun w' hS => (E.Runs.add rfl rfl rfl (IntWalk.i64_in _ (by omega)))) ?_
              refine E.GH.take (i := 6) rfl (by kernel_rfl) (by kernel_rfl) (by kernel_rfl) (by intro c a d v w h; first | (cases d <;> exact h) | exact nomatch (show _ ∧ _ from h).1) rfl rfl rfl (fun w' hS => (E.Runs.indexAddrA (i := i + 1) rfl rfl (by push_cast; rfl) hu87 z91 o91 (by omega) eAA rfl)) ?_
              refine E.GH.take (i := 7) rfl (by kernel_rfl) (by kernel_rfl) (by kernel_rfl) (by intro c a d v w h; first | (cases d <;> exact h) | exact nomatch (show _ ∧ _ from h).1) rfl rfl rfl (fun w' hS => (E.Runs.load1 rfl rfl hu91 rfl (E.keeps hS XA E.nen))) ?_
              refine E.GH.take (i := 8) rfl (by kernel_rfl) (by kernel_rfl) (by kernel_rfl) (by intro c a d v w h; first | (cases d <;> exact h) | exact nomatch (show _ ∧ _ from h).1) rfl rfl rfl (fun w' hS => (E.Runs.loads (cs := [.int .i64 x.f0, .int .i64 x.f1, .int .i64 x.f2]) rfl rfl hu59 rfl info59s (blk_cells (blk_grown s_b18 hS E.nen)))) ?_
              refine E.GH.take (i := 9) rfl (by kernel_rfl) (by kernel_rfl) (by kernel_rfl) (by intro c a d v w h; first | (cases d <;> exact h) | exact nomatch (show _ ∧ _ from h).1) rfl rfl rfl (fun w' hS => (E.Runs.fieldAddr rfl rfl hu69 rfl (by assumption) rfl)) ?_
              refine E.GH.take (i := 10) rfl (by kernel_rfl) (by kernel_rfl) (by kernel_rfl) (by intro c a d v w h; first | (cases d <;> exact h) | exact nomatch (show _ ∧ _ from h).1) rfl rfl rfl (fun w' hS => (E.Runs.loads (cs := [.int .i64 o.b.f0, .int .i64 o.b.f1, .int .i64 o.b.f2]) rfl rfl hu59 rfl info59s (mid69 (blk_grown s_b20 hS E.nen)))) ?_
              by_cases h193 : Fa (i + 1) (x.add o.b) = none
              · refine E.GH.one (i := 11) (by kernel_rfl) rfl ?_
                refine E.GO.st rfl rfl rfl (E.ST.call rfl ent48 (E.evc rfl (E.evc rfl E.evn)) ((plus_calls x o.b _ (hsx.up (by decide)) (hso.up (by decide))).mono ?_))
                rintro e w193 ⟨rfl, l193⟩
                refine ⟨_, rfl, hh.trans (E.gbB l193), ?_⟩
                replace hh := hh.trans (E.gbB l193)
                replace b18 := blk_below b18 l193
                replace b20 := blk_below b20 l193
                replace hLq := hLq.below l193
                refine E.GH.take (i := 12) rfl (by kernel_rfl) (by kernel_rfl) (by kernel_rfl) (by intro c a d v w h; first | (cases d <;> exact h) | exact nomatch (show _ ∧ _ from h).1) rfl rfl rfl (fun w' hS => (E.Runs.lookupF rfl rfl kBT rfl hu91 zero3I (mq.grown hS (by simp)) (show _ = Value.tuple #[.int .i64 0, .bool false] from by simp [h193]))) ?_
                refine E.GH.take (i := 13) rfl (by kernel_rfl) (by kernel_rfl) (by kernel_rfl) (by intro c a d v w h; first | (cases d <;> exact h) | exact nomatch (show _ ∧ _ from h).1) rfl rfl rfl (fun w' hS => (E.Runs.move rfl rfl)) ?_
                refine E.GH.take (i := 14) rfl (by kernel_rfl) (by kernel_rfl) (by kernel_rfl) (by intro c a d v w h; first | (cases d <;> exact h) | exact nomatch (show _ ∧ _ from h).1) rfl rfl rfl (fun w' hS => (E.Runs.extract rfl rfl rfl)) ?_
                refine E.GH.take (i := 15) rfl (by kernel_rfl) (by kernel_rfl) (by kernel_rfl) (by intro c a d v w h; first | (cases d <;> exact h) | exact nomatch (show _ ∧ _ from h).1) rfl rfl rfl (fun w' hS => (E.Runs.extract rfl rfl rfl)) ?_
                refine E.GH.take (i := 16) rfl (by kernel_rfl) (by kernel_rfl) (by kernel_rfl) (by intro c a d v w h; first | (cases d <;> exact h) | exact nomatch (show _ ∧ _ from h).1) rfl rfl rfl (fun w' hS => (E.Runs.assign rfl rfl)) ?_
                refine E.GH.take (i := 17) rfl (by kernel_rfl) (by kernel_rfl) (by kernel_rfl) (by intro c a d v w h; first | (cases d <;> exact h) | exact nomatch (show _ ∧ _ from h).1) rfl rfl rfl (fun w' hS => (E.Runs.assign rfl rfl)) ?_
                refine E.GH.done (by kernel_rfl) ?_
                refine E.QG.code ?_
                refine E.CG.seq ?_
                refine E.CG.list ?_
                refine E.GL.run rfl rfl rfl (E.Runs.move rfl rfl) ?_
                refine E.GL.done ?_
                refine E.QG.code ?_
                refine E.CG.cond_f rfl ?_
                refine E.CG.skip ?_
                refine E.QG.block_normal ?_
                refine E.QG.code ?_
                refine E.CG.list ?_
                refine E.GL.run rfl rfl rfl (E.Runs.add rfl rfl rfl (IntWalk.i64_in _ (by omega))) ?_
                refine E.GL.run rfl rfl rfl (E.Runs.move rfl rfl) ?_
                refine E.GL.done ?_
                exact E.QG.round (k + 1) (E.subc rfl (E.subc rfl (E.subc rfl (E.subc rfl (E.subc rfl (E.subc rfl (E.subc rfl E.subn))))))) ⟨by omega, b18, _, hLq, (by first | exact na_yes ho hr0 hMn (fun z => take_more ho) | exact na_no h193 hMn (fun z => take_more ho) | fail)⟩ (by omega)
              · obtain ⟨r0, hr0⟩ := Option.ne_none_iff_exists'.mp h193
                have hobb : o.b = wb := by rw [hob]; rfl
                obtain ⟨hr1, hr2⟩ := isA_small hIA (isB_reach (hF i (by omega)) hx (by rw [hct]; exact hwb)) (by rw [← hobb]; exact hr0)
                have hc4 := ok.c4
                refine E.GH.one (i := 11) (by kernel_rfl) rfl ?_
                refine E.GO.st rfl rfl rfl (E.ST.call rfl ent48 (E.evc rfl (E.evc rfl E.evn)) ((plus_calls x o.b _ (hsx.up (by decide)) (hso.up (by decide))).mono ?_))
                rintro e w193 ⟨rfl, l193⟩
                refine ⟨_, rfl, hh.trans (E.gbB l193), ?_⟩
                replace hh := hh.trans (E.gbB l193)
                replace b18 := blk_below b18 l193
                replace b20 := blk_below b20 l193
                replace hLq := hLq.below l193
                refine E.GH.take (i := 12) rfl (by kernel_rfl) (by kernel_rfl) (by kernel_rfl) (by intro c a d v w h; first | (cases d <;> exact h) | exact nomatch (show _ ∧ _ from h).1) rfl rfl rfl (fun w' hS => (E.Runs.lookupF rfl rfl kBT rfl hu91 zero3I (mq.grown hS (by simp)) (show _ = Value.tuple #[.int .i64 r0, .bool true] from by simp [hr0]))) ?_
                refine E.GH.take (i := 13) rfl (by kernel_rfl) (by kernel_rfl) (by kernel_rfl) (by intro c a d v w h; first | (cases d <;> exact h) | exact nomatch (show _ ∧ _ from h).1) rfl rfl rfl (fun w' hS => (E.Runs.move rfl rfl)) ?_
                refine E.GH.take (i := 14) rfl (by kernel_rfl) (by kernel_rfl) (by kernel_rfl) (by intro c a d v w h; first | (cases d <;> exact h) | exact nomatch (show _ ∧ _ from h).1) rfl rfl rfl (fun w' hS => (E.Runs.extract rfl rfl rfl)) ?_
                refine E.GH.take (i := 15) rfl (by kernel_rfl) (by kernel_rfl) (by kernel_rfl) (by intro c a d v w h; first | (cases d <;> exact h) | exact nomatch (show _ ∧ _ from h).1) rfl rfl rfl (fun w' hS => (E.Runs.extract rfl rfl rfl)) ?_
                refine E.GH.take (i := 16) rfl (by kernel_rfl) (by kernel_rfl) (by kernel_rfl) (by intro c a d v w h; first | (cases d <;> exact h) | exact nomatch (show _ ∧ _ from h).1) rfl rfl rfl (fun w' hS => (E.Runs.assign rfl rfl)) ?_
                refine E.GH.take (i := 17) rfl (by kernel_rfl) (by kernel_rfl) (by kernel_rfl) (by intro c a d v w h; first | (cases d <;> exact h) | exact nomatch (show _ ∧ _ from h).1) rfl rfl rfl (fun w' hS => (E.Runs.assign rfl rfl)) ?_
                refine E.GH.done (by kernel_rfl) ?_
                refine E.QG.code ?_
                refine E.CG.seq ?_
                refine E.CG.list ?_
                refine E.GL.run rfl rfl rfl (E.Runs.move rfl rfl) ?_
                refine E.GL.done ?_
                refine E.QG.code ?_
                refine E.CG.cond_t rfl ?_
                refine E.CG.heldJ 12 (fun v W => v.grownBy W (some g155)) (fun v W => v.grownBy W (some g155)) (by kernel_rfl) (by kernel_rfl) (fun v => World.grownBy.refl _ _) fun v39 lD => ?_
                replace b18 := blk_below b18 lD
                replace b20 := blk_below b20 lD
                replace hLq := hLq.below lD
                clear lD
                have s_b18 := b18
                have s_b20 := b20
                have b4 := blk_grown b4N hLq.k (E.nes (Ne.symm (map_ne mN0 b4N)))
                have RA := Kd.R_grown1 RAN rfl hLq.k (map_row RAN mN0)
                have hDi2 : (D.set i (some g155))[i]? = some (some g155) := List.getElem?_set_self (by omega)
                obtain ⟨gA2, eAA2, _, XA2, _, ⟨_, bA2⟩, _⟩ := rowG_at RA hDi2
                have nA2 := E.nes (Ne.symm (map_ne hLq.mp bA2))
                have nb4 := E.nes (Ne.symm (map_ne hLq.mp b4))
                have nb18 := E.nes (Ne.symm (map_ne hLq.mp b18))
                have nb20 := E.nes (Ne.symm (map_ne hLq.mp b20))
                refine E.GJ.take2 (i := 0) rfl (by kernel_rfl) (by kernel_rfl) (by kernel_rfl) (by kernel_rfl) (by intro c a d v w h; first | (cases d <;> exact h) | exact nomatch (show _ ∧ _ from h).1) rfl rfl rfl (fun w' hS => (E.Runs.move rfl rfl)) ?_
                refine E.GJ.take2 (i := 1) rfl (by kernel_rfl) (by kernel_rfl) (by kernel_rfl) (by kernel_rfl) (by intro c a d v w h; first | (cases d <;> exact h) | exact nomatch (show _ ∧ _ from h).1) rfl rfl rfl (fun w' hS => (E.Runs.nilCheck rfl rfl)) ?_
                refine E.GJ.take2 (i := 2) rfl (by kernel_rfl) (by kernel_rfl) (by kernel_rfl) (by kernel_rfl) (by intro c a d v w h; first | (cases d <;> exact h) | exact nomatch (show _ ∧ _ from h).1) rfl rfl rfl (fun w' hS => (E.Runs.fieldAddr rfl rfl hu89 rfl (by assumption) rfl)) ?_
                refine E.GJ.take2 (i := 3) rfl (by kernel_rfl) (by kernel_rfl) (by kernel_rfl) (by kernel_rfl) (by intro c a d v w h; first | (cases d <;> exact h) | exact nomatch (show _ ∧ _ from h).1) rfl rfl rfl (fun w' hS => (E.Runs.load1 rfl rfl hu87 rfl (by first | exact E.keeps hS (E.blkc b4 rfl) nb4 | exact E.keeps (hS.elim id id) (E.blkc b4 rfl) nb4))) ?_
                refine E.GJ.take2 (i := 4) rfl (by kernel_rfl) (by kernel_rfl) (by kernel_rfl) (by kernel_rfl) (by intro c a d v w h; first | (cases d <;> exact h) | exact nomatch (show _ ∧ _ from h).1) rfl rfl rfl (fun w' hS => (E.Runs.move rfl rfl)) ?_
                refine E.GJ.take1t (i := 5) 6 rfl (by kernel_rfl) (by kernel_rfl) (by kernel_rfl) (by kernel_rfl) rfl (by kernel_rfl) rfl (by kernel_rfl) (by kernel_rfl) (by kernel_rfl) (by kernel_rfl) (by kernel_rfl) (by intro c a d v w h; first | (cases d <;> exact h) | exact nomatch (show _ ∧ _ from h).1) rfl rfl rfl (fun w' hS => (E.Runs.indexAddrA (i := i) rfl rfl rfl hu87 z91 o91 (by omega) eAA2 (show _ = (⟨gA2, i * 1, none⟩ : Addr) from by rw [Go.Addr.add_mid, Nat.zero_add]))) ?_
                refine E.GJ.take1 (i := 6) rfl (by kernel_rfl) (by kernel_rfl) (by kernel_rfl) (by kernel_rfl) rfl (by kernel_rfl) (by kernel_rfl) (by intro c a d v w h; first | (cases d <;> exact h) | exact nomatch (show _ ∧ _ from h).1) rfl rfl rfl (fun w' hS => (E.Runs.load1 rfl rfl hu91 rfl (by first | exact E.keeps hS XA2 nA2 | exact E.keeps (hS.elim id id) XA2 nA2))) ?_
                refine E.GJ.take1 (i := 7) rfl (by kernel_rfl) (by kernel_rfl) (by kernel_rfl) (by kernel_rfl) rfl (by kernel_rfl) (by kernel_rfl) (by intro c a d v w h; first | (cases d <;> exact h) | exact nomatch (show _ ∧ _ from h).1) rfl rfl rfl (fun w' hS => (E.Runs.loads (cs := [.int .i64 x.f0, .int .i64 x.f1, .int .i64 x.f2]) rfl rfl hu59 rfl info59s (by first | exact blk_cells (blk_grown b18 hS nb18) | exact blk_cells (blk_grown b18 (hS.elim id id) nb18)))) ?_
                refine E.GJ.take1t (i := 8) 11 rfl (by kernel_rfl) (by kernel_rfl) (by kernel_rfl) (by kernel_rfl) rfl (by kernel_rfl) rfl (by kernel_rfl) (by kernel_rfl) (by kernel_rfl) (by kernel_rfl) (by kernel_rfl) (by intro c a d v w h; first | (cases d <;> exact h) | exact nomatch (show _ ∧ _ from h).1) rfl rfl rfl (fun w' hS => (E.Runs.move rfl rfl)) ?_
                refine E.GJ.take2 (i := 9) rfl (by kernel_rfl) (by kernel_rfl) (by kernel_rfl) (by kernel_rfl) (by intro c a d v w h; first | (cases d <;> exact h) | exact nomatch (show _ ∧ _ from h).1) rfl rfl rfl (fun w' hS => (E.Runs.fieldAddr rfl rfl hu69 rfl (by assumption) rfl)) ?_
                refine E.GJ.take1t (i := 10) 11 rfl (by kernel_rfl) (by kernel_rfl) (by kernel_rfl) (by kernel_rfl) rfl (by kernel_rfl) rfl (by kernel_rfl) (by kernel_rfl) (by kernel_rfl) (by kernel_rfl) (by kernel_rfl) (by intro c a d v w h; first | (cases d <;> exact h) | exact nomatch (show _ ∧ _ from h).1) rfl rfl rfl (fun w' hS => (E.Runs.load rfl rfl hu3 (by first | exact E.keeps hS (E.blkc b20 rfl) nb20 | exact E.keeps (hS.elim id id) (E.blkc b20 rfl) nb20))) ?_
                refine E.GJ.take1 (i := 11) rfl (by kernel_rfl) (by kernel_rfl) (by kernel_rfl) (by kernel_rfl) rfl (by kernel_rfl) (by kernel_rfl) (by intro c a d v w h; first | (cases d <;> exact h) | exact nomatch (show _ ∧ _ from h).1) rfl rfl rfl (fun w' hS => (E.Runs.add rfl rfl rfl (IntWalk.i64_in _ (by omega)))) ?_
                refine E.GJ.one (i := 12) (by kernel_rfl) (E.OJ.st rfl rfl rfl rfl (E.ST.call rfl ent75 (E.evc rfl (E.evc rfl (E.evc rfl E.evn))) ((least_calls g155 f x (r0 + o.f3) _ hLq.mp).mono ?_)))
                rintro e w210 ⟨rfl, m210, l210⟩
                refine ⟨_, rfl, (E.SJ.behind (by kernel_rfl)).mpr l210, ?_⟩
                replace b18 := blk_grown b18 l210 (E.nes (Ne.symm (map_ne hLq.mp b18)))
                clear b20
                replace hLq := hLq.filled l210 m210
                refine E.GJ.done (by kernel_rfl) ?_
                refine E.QG.block_normal ?_
                refine E.QG.code ?_
                refine E.CG.list ?_
                refine E.GL.run rfl rfl rfl (E.Runs.add rfl rfl rfl (IntWalk.i64_in _ (by omega))) ?_
                refine E.GL.run rfl rfl rfl (E.Runs.move rfl rfl) ?_
                refine E.GL.done ?_
                exact E.QG.round (k + 1) (E.subc rfl (E.subc rfl (E.subc rfl (E.subc rfl (E.subc rfl (E.subc rfl (E.subc rfl E.subn))))))) ⟨by omega, b18, _, hLq, (by first | exact na_yes ho hr0 hMn (fun z => take_more ho) | exact na_no h193 hMn (fun z => take_more ho) | fail)⟩ (by omega)
            · refine E.GL.done ?_
              refine E.QG.code ?_
              refine E.CG.seq ?_
              refine E.CG.cond_f rfl ?_
              refine E.CG.exit ?_
              refine E.QG.pass_exit ?_
              refine E.QG.pass_exit ?_
              refine E.QG.block_here ?_
              refine E.QG.block_normal ?_
              exact E.QG.round2 (g := S) (d := n) (S ++ [x]) n' (E.subc rfl (E.subc rfl (E.subc rfl E.subn))) ⟨fun b hb => by
                  rcases List.mem_append.mp hb with hb | hb
                  · exact hSd b hb
                  · rw [List.mem_singleton] at hb; rw [hb, hx]; exact Option.some_ne_none _, f, hLq, na_more (by omega) hMn⟩ hn'
        · obtain rfl : j = 0 := by omega
          refine E.GL.done ?_
          refine E.QG.code ?_
          refine E.CG.cond_f rfl ?_
          refine E.CG.exit ?_
          refine E.QG.pass_exit ?_
          refine E.QG.pass_exit ?_
          refine E.QG.block_here ?_
          refine E.QG.code ?_
          refine E.CG.seq ?_
          refine E.CG.list ?_
          refine E.GL.run rfl rfl rfl (E.Runs.move rfl rfl) ?_
          refine E.GL.run rfl rfl rfl (E.Runs.assign rfl rfl) ?_
          refine E.GL.run rfl rfl rfl (E.Runs.assign rfl rfl) ?_
          refine E.GL.done ?_
          refine E.QG.code ?_
          refine E.CG.ret ?_
          exact E.QG.result2 rfl rfl rfl ⟨_, _, rfl, .inr (.inr ⟨ok, rfl, g4, C, G, D, Ac, Ab, Aa, cc, cb, ca, F, Fa, rfl, by rw [hfs]; exact Option.some_ne_none _, ⟨by rw [hDl]; exact b4, (Kd.R_reads' RC).2.2, (Kd.R_reads' RB).2.2, (Kd.R_reads' RA).2.2, hCl, hGl, hDl, fun j h hj => ⟨(hC.row j h hj).1, by have q := hC.row j h hj; rw [q.1]; exact (Kd.R_reads' q.2).2.2⟩, fun j hj => by
            obtain ⟨k, q1, _, q3⟩ := hG.at_ hGn (show j < G.length by omega)
            exact ⟨k, q1, q3, hF j hj⟩, fun j hj => by
            obtain ⟨k, q1, q2⟩ := hDs j (by omega) hj
            exact ⟨k, q1, (hD.mp j k q1).2, q2⟩⟩⟩), L⟩
  · refine E.GL.run rfl rfl rfl (E.Runs.neq rfl rfl rfl (E.ne_t (by rw [chkV_no ok]; decide))) ?_
    refine E.GL.done ?_
    refine E.QG.code ?_
    refine E.CG.cond_t rfl ?_
    refine E.CG.seq ?_
    refine E.CG.list ?_
    refine E.GL.run rfl rfl rfl (E.Runs.assign rfl rfl) ?_
    refine E.GL.run rfl rfl rfl (E.Runs.assign rfl rfl) ?_
    refine E.GL.done ?_
    refine E.QG.code ?_
    refine E.CG.ret ?_
    refine E.QG.pass_ret ?_
    exact E.QG.result2 rfl rfl rfl ⟨_, _, rfl, .inl ⟨ok, rfl, rfl⟩, L⟩

end Go.Proofs.Ytiplichdhcmjdaa.T
namespace Go.Proofs.Ytiplichdhcmjdaa.T
open Go.RowKit Go.Proofs.YtiplichdhcmjdaaW.PrintWords Go.Proofs.YtiplichdhcmjdaaW.PrintMore
open Go.Proofs.Ytiplichdhcmjdaa.P
set_option linter.unusedVariables false
set_option linter.unusedSimpArgs false

set_option maxRecDepth 100000 in
set_option maxHeartbeats 8000000 in

theorem flaws_calls (V : Ev) (m : Ea) (g : Nat) {C : List Hd} {G D : List (Option Nat)} {Ac Ab Aa : Option Addr} {cc cb ca : Nat} {F Fa : Nat → Bl → Option Int} (w : World) (hO : Op w V m g C G D Ac Ab Aa cc cb ca F Fa) (N : Int) (hN : Fa 0 Bl.z = some N) :
    Calls Try.prog 50 #[.pointer (some ⟨g, 0, none⟩)] w fun e w' => e = .returned (.int .i64 N) ∧ Below w.heap.size w w' := by
  have hu3 := Try.underlying3
  have hu59 := Try.underlying59
  have hu87 := Try.underlying87
  have hu89 := Try.underlying89
  have hu91 := Try.underlying91
  obtain ⟨z91, o91⟩ := info_some info91s (by decide)
  have hla := hO.la
  obtain ⟨gq, hgq, mq, _⟩ := hO.ha 0 (Nat.zero_le _)
  obtain ⟨adA, eAA, XA⟩ := sc_at hO.ra hgq
  obtain ⟨z87, o87⟩ := info_some info87s (by decide)
  refine E.enter (N := 11) Try.func50 rfl Try.ntmps50 (args := [.pointer (some ⟨g, 0, none⟩)]) (by simp) ?_
  have L := Below.refl w.heap.size w
  refine E.CG.seq ?_
  refine E.CG.list ?_
  refine E.GL.run rfl rfl rfl (E.Runs.assign rfl rfl) ?_
  refine E.GL.done ?_
  refine E.QG.code ?_
  refine E.CG.seq ?_
  refine E.CG.list ?_
  refine E.GL.run rfl rfl rfl (E.Runs.move rfl rfl) ?_
  refine E.GL.run rfl rfl rfl (E.Runs.nilCheck rfl rfl) ?_
  refine E.GL.run rfl rfl rfl (E.Runs.fieldAddr rfl rfl hu89 rfl (by assumption) rfl) ?_
  refine E.GL.run rfl rfl rfl (E.Runs.load1 rfl rfl hu87 rfl (E.blkc (blk_below hO.b4 L) rfl)) ?_
  refine E.GL.run rfl rfl rfl (E.Runs.indexAddrA (i := 0) rfl rfl rfl hu87 z91 o91 (by omega) eAA rfl) ?_
  refine E.GL.run rfl rfl rfl (E.Runs.load1 rfl rfl hu91 rfl (pw_cell_below L XA)) ?_
  refine E.GL.run rfl rfl rfl (E.Runs.build rfl E.epn build59z) ?_
  refine E.GL.run rfl rfl rfl (E.Runs.lookupF rfl rfl kBT rfl hu91 zero3I (mq.below L) (show _ = Value.int .i64 N from by simp [hN])) ?_
  refine E.GL.run rfl rfl rfl (E.Runs.assign rfl rfl) ?_
  refine E.GL.done ?_
  refine E.QG.code ?_
  refine E.CG.ret ?_
  exact E.QG.result rfl rfl ⟨rfl, L⟩

end Go.Proofs.Ytiplichdhcmjdaa.T
namespace Go.Proofs.Ytiplichdhcmjdaa.T
open Go.RowKit Go.Proofs.YtiplichdhcmjdaaW.PrintWords Go.Proofs.YtiplichdhcmjdaaW.PrintMore
open Go.Proofs.Ytiplichdhcmjdaa.P
set_option linter.unusedVariables false
set_option linter.unusedSimpArgs false

set_option maxRecDepth 100000 in
set_option maxHeartbeats 8000000 in

theorem flawed_calls (o : S69) (r : Bool) (hr : r = true ↔ 0 < o.f3) (w : World) :
    Calls Try.prog 56 #[.agg #[.int .i64 o.f0, .int .i64 o.f1, .int .i64 o.f2, .int .i64 o.f3]] w fun e w' => e = .returned (.bool r) ∧ Below w.heap.size w w' := by
  have hu3 := Try.underlying3
  have hu69 := Try.underlying69
  obtain ⟨z3, o3⟩ := info_some info3s (by decide)
  refine E.enter (N := 6) Try.func56 rfl Try.ntmps56 (args := [.agg #[.int .i64 o.f0, .int .i64 o.f1, .int .i64 o.f2, .int .i64 o.f3]]) (by simp) ?_
  have L := Below.refl w.heap.size w
  refine E.CG.seq ?_
  refine E.CG.list ?_
  refine E.GL.st rfl rfl rfl (E.ST.box rfl rfl fun g1 w1 e1 b1 l1 => ?_)
  have h1_L : w.heap.size ≤ g1 := by rw [e1]; exact L.size
  replace L := below_step L l1
  refine E.GL.run rfl rfl rfl (E.Runs.assign rfl rfl) ?_
  refine E.GL.done ?_
  refine E.QG.code ?_
  refine E.CG.seq ?_
  refine E.CG.list ?_
  refine E.GL.run rfl rfl rfl (E.Runs.fieldAddr rfl rfl hu69 rfl (by assumption) rfl) ?_
  refine E.GL.run rfl rfl rfl (E.Runs.load rfl rfl hu3 (by first | assumption | exact E.blkc (by assumption) rfl | exact pw_cell_below L (by assumption))) ?_
  refine E.GL.cmp rfl rfl rfl (fun _ h => (E.Runs.gtr rfl rfl rfl h)) (fun h5 => ?_) (fun h5 => ?_)
  · refine E.GL.run rfl rfl rfl (E.Runs.assign rfl rfl) ?_
    refine E.GL.done ?_
    refine E.QG.code ?_
    refine E.CG.ret ?_
    exact E.QG.result rfl rfl ⟨by rw [hr.mpr (by omega)], L⟩
  · refine E.GL.run rfl rfl rfl (E.Runs.assign rfl rfl) ?_
    refine E.GL.done ?_
    refine E.QG.code ?_
    refine E.CG.ret ?_
    exact E.QG.result rfl rfl ⟨by rw [bool_no hr (by omega)], L⟩

set_option maxRecDepth 100000 in
set_option maxHeartbeats 8000000 in

theorem sound_calls (o : S69) (r : Bool) (hr : r = true ↔ o.f3 = 0) (w : World) :
    Calls Try.prog 62 #[.agg #[.int .i64 o.f0, .int .i64 o.f1, .int .i64 o.f2, .int .i64 o.f3]] w fun e w' => e = .returned (.bool r) ∧ Below w.heap.size w w' := by
  have hu3 := Try.underlying3
  have hu69 := Try.underlying69
  obtain ⟨z3, o3⟩ := info_some info3s (by decide)
  refine E.enter (N := 6) Try.func62 rfl Try.ntmps62 (args := [.agg #[.int .i64 o.f0, .int .i64 o.f1, .int .i64 o.f2, .int .i64 o.f3]]) (by simp) ?_
  have L := Below.refl w.heap.size w
  refine E.CG.seq ?_
  refine E.CG.list ?_
  refine E.GL.st rfl rfl rfl (E.ST.box rfl rfl fun g1 w1 e1 b1 l1 => ?_)
  have h1_L : w.heap.size ≤ g1 := by rw [e1]; exact L.size
  replace L := below_step L l1
  refine E.GL.run rfl rfl rfl (E.Runs.assign rfl rfl) ?_
  refine E.GL.done ?_
  refine E.QG.code ?_
  refine E.CG.seq ?_
  refine E.CG.list ?_
  refine E.GL.run rfl rfl rfl (E.Runs.fieldAddr rfl rfl hu69 rfl (by assumption) rfl) ?_
  refine E.GL.run rfl rfl rfl (E.Runs.load rfl rfl hu3 (by first | assumption | exact E.blkc (by assumption) rfl | exact pw_cell_below L (by assumption))) ?_
  refine E.GL.cmp rfl rfl rfl (fun _ h => (E.Runs.eql rfl rfl rfl h)) (fun h5 => ?_) (fun h5 => ?_)
  · refine E.GL.run rfl rfl rfl (E.Runs.assign rfl rfl) ?_
    refine E.GL.done ?_
    refine E.QG.code ?_
    refine E.CG.ret ?_
    exact E.QG.result rfl rfl ⟨by rw [hr.mpr (by omega)], L⟩
  · refine E.GL.run rfl rfl rfl (E.Runs.assign rfl rfl) ?_
    refine E.GL.done ?_
    refine E.QG.code ?_
    refine E.CG.ret ?_
    exact E.QG.result rfl rfl ⟨by rw [bool_no hr (by omega)], L⟩


end Go.Proofs.Ytiplichdhcmjdaa.T
namespace Go.Proofs.Ytiplichdhcmjdaa.T
open Go.RowKit Go.Proofs.YtiplichdhcmjdaaW.PrintWords Go.Proofs.YtiplichdhcmjdaaW.PrintMore
open Go.Proofs.Ytiplichdhcmjdaa.P
set_option linter.unusedVariables false
structure Li (wN w : World) (r gb : Nat) (fb : Bl → Option Int) (S : List Bl) (n : Nat) : Prop where
  k : Below wN.heap.size wN w
  it : E.MfI bv evI w r gb fb S n
  hr : wN.heap.size ≤ r
  hb : gb < wN.heap.size
section
variable {wN w w' : World} {r gb : Nat} {fb : Bl → Option Int} {S : List Bl} {n : Nat}
theorem Li.below (h : Li wN w r gb fb S n) (l : Below w.heap.size w w') : Li wN w' r gb fb S n := ⟨below_step h.k l, h.it.below l, h.hr, h.hb⟩
theorem Li.grown {g : Nat} (h : Li wN w r gb fb S n) (hg : w.grownBy w' (some g)) (p : wN.heap.size ≤ g ∧ ∃ cs t, w.heap[g]? = some (.cells cs t (0, 0))) : Li wN w' r gb fb S n := by
  obtain ⟨hs, cs, t, hc⟩ := p
  refine ⟨E.below_own h.k hs hg, h.it.grown hg (fun e => ?_) (fun e => ?_), h.hr, h.hb⟩
  · injection e with e
    have := h.hb
    omega
  · injection e with e
    obtain ⟨_, _, _, q⟩ := h.it.it
    rw [e, hc] at q
    cases q
theorem Li.stepped {S' : List Bl} {n' : Nat} (h : Li wN w r gb fb S n) (hg : w.grownBy w' (some r)) (it : E.MfI bv evI w' r gb fb S' n') : Li wN w' r gb fb S' n' := ⟨E.below_own h.k h.hr hg, it, h.hr, h.hb⟩
end
open Classical in
noncomputable def lkL (V : Ev) (N : Int) (i : Nat) (l : List S69) : List S69 := l.filter (fun o => decide (Lk V N i o.b))
theorem lkL_yes {V : Ev} {N : Int} {i k : Nat} {l : List S69} {o : S69} (ho : l[k]? = some o) (h : Lk V N i o.b) : lkL V N i (l.take (k + 1)) = lkL V N i (l.take k) ++ [o] := by
  unfold lkL
  rw [List.take_add_one, ho, List.filter_append]
  simp [h]
theorem lkL_no {V : Ev} {N : Int} {i k : Nat} {l : List S69} {o : S69} (ho : l[k]? = some o) (h : ¬ Lk V N i o.b) : lkL V N i (l.take (k + 1)) = lkL V N i (l.take k) := by
  unfold lkL
  rw [List.take_add_one, ho, List.filter_append]
  simp [h]
theorem lkL_mem {V : Ev} {N : Int} {i : Nat} {l : List S69} {o : S69} : o ∈ lkL V N i l ↔ o ∈ l ∧ Lk V N i o.b := by
  unfold lkL
  rw [List.mem_filter]
  simp
theorem lkL_len (V : Ev) (N : Int) (i : Nat) (l : List S69) : (lkL V N i l).length ≤ l.length := List.length_filter_le _ _
end Go.Proofs.Ytiplichdhcmjdaa.T
namespace Go.Proofs.Ytiplichdhcmjdaa.T
open Go.RowKit Go.Proofs.YtiplichdhcmjdaaW.PrintWords Go.Proofs.YtiplichdhcmjdaaW.PrintMore
open Go.Proofs.Ytiplichdhcmjdaa.P
set_option linter.unusedVariables false
set_option linter.unusedSimpArgs false

theorem it_row {α : Type} {d : Kd α} {e base r gb : Nat} {w wN : World} {v : Value} {xs : List α} {fb : Bl → Option Int} {S : List Bl} {n : Nat} (h : Kd.R d e w base (fun _ => True) v xs) (hi : Li wN w r gb fb S n) : some r ≠ v.ownBlock := fun ek => by
  obtain ⟨_, inner, ho, _⟩ := h
  obtain ⟨cells, hc⟩ := own_typed ho r ek.symm
  obtain ⟨_, _, _, q⟩ := hi.it.it
  rw [hc] at q
  cases q
theorem it_blk {g t r gb : Nat} {w wN : World} {cs : Array Value} {fb : Bl → Option Int} {S : List Bl} {n : Nat} (h : w.heap[g]? = some (.cells cs t (0, 0))) (hi : Li wN w r gb fb S n) : g ≠ r := by
  obtain ⟨_, _, _, q⟩ := hi.it.it
  rintro rfl
  rw [h] at q
  cases q
/-- Some tickets before this one make a likely truth. -/
def Good (F Fa : Bl → Option Int) (N : Int) (o : S69) (b : Bl) : Prop := ∃ m, F b = some m ∧ ∃ r, Fa (b.add o.b) = some r ∧ m + o.f3 + r = N
set_option maxRecDepth 100000 in
set_option maxHeartbeats 8000000 in

theorem likely_calls (V : Ev) (m : Ea) (g : Nat) {C : List Hd} {G D : List (Option Nat)} {Ac Ab Aa : Option Addr} {cc cb ca : Nat} {F Fa : Nat → Bl → Option Int} (w : World) (hO : Op w V m g C G D Ac Ab Aa cc cb ca F Fa) (ok : VOk V) (N : Int) (hN0 : Fa 0 Bl.z = some N) (hN : IsFew V N) (i : Nat) (hi : i < V.cs.length) :
    Calls Try.prog 76 #[.pointer (some ⟨g, 0, none⟩), .int .i64 i] w fun e w' => ∃ v, e = .returned v ∧ Kd.R k69 69 w' w.heap.size (fun _ => True) v (lkL V N i (chs V (ct V i))) ∧ Below w.heap.size w w' := by
  have hu3 := Try.underlying3
  have hu59 := Try.underlying59
  have hu69 := Try.underlying69
  have hu72 := Try.underlying72
  have hu86 := Try.underlying86
  have hu87 := Try.underlying87
  have hu89 := Try.underlying89
  have hu91 := Try.underlying91
  obtain ⟨z91, o91⟩ := info_some info91s (by decide)
  obtain ⟨z3, o3⟩ := info_some info3s (by decide)
  obtain ⟨z59, o59⟩ := info_some info59s (by decide)
  obtain ⟨z69, o69⟩ := info_some info69s (by decide)
  obtain ⟨z72, o72⟩ := info_some info72s (by decide)
  obtain ⟨z86, o86⟩ := info_some info86s (by decide)
  obtain ⟨z87, o87⟩ := info_some info87s (by decide)
  have hla := hO.la
  have hlb := hO.lb
  have hlc := hO.lc
  have hc4 := ok.c4
  obtain ⟨c, hc⟩ := get_ex hi
  have hct := ct_of hc
  have hcok := ok.c c (List.mem_of_getElem? hc)
  have hcl := chs_len ok hcok
  rw [← hct] at hcl hcok
  have hN8 : 0 ≤ N ∧ N ≤ 8 := by
    obtain ⟨⟨t, ht, rfl⟩, _⟩ := hN
    have h01 := flT_01 V t 0
    have := ht.1
    omega
  obtain ⟨hd, hhd⟩ := get_ex (show i < C.length by omega)
  obtain ⟨hdn, hdr⟩ := hO.hc i hd hhd
  obtain ⟨adC, eAC, XC⟩ := sc_at hO.rc hhd
  obtain ⟨gb, hgb1, mB, hIB⟩ := hO.hb i (by omega)
  have hgb := mB.lt
  obtain ⟨adB, eAB, XB⟩ := sc_at hO.rb hgb1
  obtain ⟨gq, hgq, mq, hIA⟩ := hO.ha (i + 1) (by omega)
  obtain ⟨adA, eAA, XA⟩ := sc_at hO.ra hgq
  refine E.enter (N := 71) Try.func76 rfl Try.ntmps76 (args := [.pointer (some ⟨g, 0, none⟩), .int .i64 (i : Int)]) (by simp) ?_
  have L := Below.refl w.heap.size w
  refine E.CG.seq ?_
  refine E.CG.list ?_
  refine E.GL.run rfl rfl rfl (E.Runs.assign rfl rfl) ?_
  refine E.GL.done ?_
  refine E.QG.code ?_
  refine E.CG.seq ?_
  refine E.CG.list ?_
  refine E.GL.run rfl rfl rfl (E.Runs.assign rfl rfl) ?_
  refine E.GL.done ?_
  refine E.QG.code ?_
  refine E.CG.seq ?_
  refine E.CG.seq ?_
  refine E.CG.list ?_
  refine E.GL.run rfl rfl rfl (E.Runs.move rfl rfl) ?_
  refine E.GL.run rfl rfl rfl (E.Runs.nilCheck rfl rfl) ?_
  refine E.GL.run rfl rfl rfl (E.Runs.fieldAddr rfl rfl hu89 rfl (by assumption) rfl) ?_
  refine E.GL.run rfl rfl rfl (E.Runs.load1 rfl rfl hu86 rfl (E.blkc (blk_below hO.b4 L) rfl)) ?_
  refine E.GL.run rfl rfl rfl (E.Runs.move rfl rfl) ?_
  refine E.GL.run rfl rfl rfl (E.Runs.indexAddrA (i := i) rfl rfl rfl hu86 z72 o72 (by omega) eAC rfl) ?_
  refine E.GL.run rfl rfl rfl (E.Runs.load1 rfl rfl hu72 rfl (show _ = some (Value.slice hd.A hd.n hd.c) from pw_cell_below L XC)) ?_
  refine E.GL.run rfl rfl rfl (E.Runs.len rfl rfl hu72) ?_
  refine E.GL.run rfl rfl rfl (E.Runs.move rfl rfl) ?_
  refine E.GL.done ?_
  refine E.QG.code ?_
  refine E.CG.block ?_
  have s3_L := L
  refine E.CG.loop2 (fun (k : Nat) (v5 : Value) => [(0, .pointer (some ⟨g, 0, none⟩)), (1, .int .i64 (i : Int)), (5, v5), (18, .slice hd.A hd.n hd.c), (19, .int .i64 hd.n), (20, .int .i64 k)]) (fun k v5 w' => k ≤ hd.n ∧ Kd.R k69 69 w' w.heap.size (fun _ => True) v5 (lkL V N i ((chs V (ct V i)).take k)) ∧ Below w.heap.size w w') (fun k v5 => hd.n - k) 0 (.slice none 0 0) (E.subc rfl (E.subc rfl (E.subc rfl (E.subc rfl (E.subc rfl (E.subc rfl E.subn)))))) ⟨Nat.zero_le _, Kd.R_nil _ _ _ _ _, L⟩ ?_
  rintro k v5 w3 ⟨hk, R5, L⟩
  refine E.CG.seq ?_
  refine E.CG.list ?_
  refine E.GL.cmp rfl rfl rfl (fun _ h => (E.Runs.lss rfl rfl rfl h)) (fun h21 => ?_) (fun h21 => ?_)
  · obtain ⟨o, ho⟩ := get_ex (show k < (chs V (ct V i)).length by omega)
    obtain ⟨ao, eO, XO⟩ := ch_at hdr ho
    have hom := List.mem_of_getElem? ho
    obtain ⟨wb, hwb, hob⟩ := (mem_chs ok.n1 ok.n3 hcok.2.2.2.2.2.2.2.1).mp hom
    have hso : SmallB o.b 20 := by rw [hob]; exact way_small hwb hcok.2.2.2.2.2.2.2.2
    have hof := fl_01 V (ct V i) wb
    have hof3 : o.f3 = fl V (ct V i) wb := by rw [hob]; rfl
    have hobb : o.b = wb := by rw [hob]; rfl
    have hlk := lk_iff ok hN hi hIB hIA hom
    refine E.GL.done ?_
    refine E.QG.code ?_
    refine E.CG.seq ?_
    refine E.CG.cond_t rfl ?_
    refine E.CG.skip ?_
    refine E.QG.code ?_
    refine E.CG.seq ?_
    refine E.CG.block ?_
    refine E.CG.seq ?_
    refine E.CG.list ?_
    refine E.GL.run rfl rfl rfl (E.Runs.indexAddrA (i := k) rfl rfl rfl hu72 z69 o69 (by omega) eO rfl) ?_
    refine E.GL.run rfl rfl rfl (E.Runs.loads (cs := [.int .i64 o.f0, .int .i64 o.f1, .int .i64 o.f2, .int .i64 o.f3]) rfl rfl hu69 rfl info69s (fun j v hv => pw_cell_below L (XO j v hv))) ?_
    refine E.GL.st rfl rfl rfl (E.ST.alloc rfl info69z fun g7 w7 e7 b7 l7 => ?_)
    have h7_L : w.heap.size ≤ g7 := by rw [e7]; exact L.size
    have n7_R5 : some g7 ≠ (v5).ownBlock := fun h => by have := Kd.R_lt R5 _ h.symm; omega
    replace R5 := Kd.R_below R5 l7
    replace L := below_step L l7
    refine E.GL.store_whole rfl rfl rfl rfl rfl b7 rfl info69s (four_one' _ _ _ _) fun wS4_3 c7 lS4_3 => ?_
    replace R5 := Kd.R_grown1 R5 rfl lS4_3 (by first | assumption | exact Kd.R_ne R5 b7 (by decide))
    replace L := E.below_own L h7_L lS4_3
    replace b7 := c7
    clear c7
    refine E.GL.done ?_
    refine E.QG.code ?_
    refine E.CG.seq ?_
    refine E.CG.list ?_
    refine E.GL.run rfl rfl rfl (E.Runs.move rfl rfl) ?_
    refine E.GL.run rfl rfl rfl (E.Runs.nilCheck rfl rfl) ?_
    refine E.GL.run rfl rfl rfl (E.Runs.fieldAddr rfl rfl hu89 rfl (by assumption) rfl) ?_
    refine E.GL.run rfl rfl rfl (E.Runs.load1 rfl rfl hu87 rfl (E.blkc (blk_below hO.b4 L) rfl)) ?_
    refine E.GL.run rfl rfl rfl (E.Runs.move rfl rfl) ?_
    refine E.GL.run rfl rfl rfl (E.Runs.indexAddrA (i := i) rfl rfl rfl hu87 z91 o91 (by omega) eAB rfl) ?_
    refine E.GL.run rfl rfl rfl (E.Runs.load1 rfl rfl hu91 rfl (pw_cell_below L XB)) ?_
    refine E.GL.st rfl rfl rfl (E.ST.range rfl rfl hu91 (mB.below L) fun r31 w31 n31 e31 it31 l31 => ?_)
    have hLi : Li w w31 r31 gb (F i) [] n31 := ⟨below_step L l31, it31, by rw [e31]; exact L.size, hgb⟩
    replace R5 := Kd.R_below R5 l31
    replace b7 := blk_below b7 l31
    clear L
    refine E.GL.done ?_
    refine E.QG.code ?_
    refine E.CG.block ?_
    have s6_b7 := b7
    refine E.CG.loop2 (fun (S : List Bl) (n : Nat) => [(0, .pointer (some ⟨g, 0, none⟩)), (1, .int .i64 (i : Int)), (5, v5), (18, .slice hd.A hd.n hd.c), (19, .int .i64 hd.n), (20, .int .i64 k), (7, .pointer (some ⟨g7, 0, none⟩)), (31, .pointer (some ⟨r31, 0, none⟩))]) (fun S n w' => (∀ b ∈ S, ¬ Good (F i) (Fa (i + 1)) N o b) ∧ w'.heap[g7]? = some (.cells #[.int .i64 o.f0, .int .i64 o.f1, .int .i64 o.f2, .int .i64 o.f3] 69 (0, 0)) ∧ Kd.R k69 69 w' w.heap.size (fun _ => True) v5 (lkL V N i ((chs V (ct V i)).take k)) ∧ Li w w' r31 gb (F i) S n) (fun S n => n) [] n31 (E.subc rfl (E.subc rfl (E.subc rfl (E.subc rfl (E.subc rfl (E.subc rfl (E.subc rfl (E.subc rfl E.subn)))))))) ⟨fun b hb => (by cases hb), b7, R5, hLi⟩ ?_
    rintro S n w6 ⟨hbad, b7, R5, hLi⟩
    refine E.CG.seq ?_
    refine E.CG.list ?_
    refine E.GL.st rfl rfl rfl (E.ST.next rfl rfl kBT hLi.it (fun hall => ?_) (fun x v w32 n' hx hxS hn' it32 mJ l32 => ?_))
    · refine E.GL.run rfl rfl rfl (E.Runs.extract rfl rfl rfl) ?_
      refine E.GL.done ?_
      refine E.QG.code ?_
      refine E.CG.seq ?_
      refine E.CG.cond_f rfl ?_
      refine E.CG.exit ?_
      refine E.QG.pass_exit ?_
      refine E.QG.pass_exit ?_
      refine E.QG.block_here ?_
      refine E.QG.block_normal ?_
      refine E.QG.code ?_
      refine E.CG.list ?_
      refine E.GL.run rfl rfl rfl (E.Runs.add rfl rfl rfl (IntWalk.i64_in _ (by omega))) ?_
      refine E.GL.run rfl rfl rfl (E.Runs.move rfl rfl) ?_
      refine E.GL.done ?_
      exact E.QG.round2 (d := .slice none 0 0) (k + 1) _ (E.subc rfl (E.subc rfl (E.subc rfl (E.subc rfl (E.subc rfl (E.subc rfl E.subn)))))) (by first | exact ⟨by omega, by rw [lkL_yes ho (hlk.mpr ⟨x, v, hx, r0, hr0, by omega⟩)]; exact r68, L⟩ | exact ⟨by omega, by rw [lkL_no ho (fun q => by obtain ⟨b, m0, q1, r0, q2, q3⟩ := hlk.mp q; exact hbad b (hall b m0 q1) ⟨m0, q1, r0, q2, q3⟩)]; exact R5, hLi.k⟩ | fail) (by omega)
    · replace R5 := Kd.R_grown1 R5 rfl l32 (it_row R5 hLi)
      replace b7 := blk_grown b7 l32 (E.nes (it_blk b7 hLi))
      replace hLi := hLi.stepped l32 it32
      obtain ⟨hsx, hv0, hv2⟩ := isB_small ok hIB hx
      refine E.GL.run rfl rfl rfl (E.Runs.extract rfl rfl rfl) ?_
      refine E.GL.done ?_
      refine E.QG.code ?_
      refine E.CG.seq ?_
      refine E.CG.cond_t rfl ?_
      refine E.CG.skip ?_
      refine E.QG.code ?_
      refine E.CG.block ?_
      refine E.CG.seq ?_
      refine E.CG.list ?_
      refine E.GL.run rfl rfl rfl (E.Runs.entry rfl rfl mJ) ?_
      refine E.GL.run rfl rfl rfl (E.Runs.extract rfl rfl rfl) ?_
      refine E.GL.run rfl rfl rfl (E.Runs.extract rfl rfl rfl) ?_
      have hz8 := hLi.k.size
      refine E.GL.st rfl rfl rfl (E.ST.alloc rfl info59z fun g8 w8 e8 b8 l8 => ?_)
      have n8_b7 : g7 ≠ g8 := by have := blk_lt b7; omega
      have n8_R5 : some g8 ≠ (v5).ownBlock := fun h => by have := Kd.R_lt R5 _ h.symm; omega
      replace b7 := blk_below b7 l8
      replace R5 := Kd.R_below R5 l8
      replace hLi := hLi.below l8
      have hs8 : w.heap.size ≤ g8 := by omega
      refine E.GL.store_whole rfl rfl rfl rfl rfl b8 rfl info59s (bv_one x) fun wS7_4 c8 lS7_4 => ?_
      replace b7 := blk_grown b7 lS7_4 (E.nes (by first | assumption | exact Ne.symm (by assumption)))
      replace R5 := Kd.R_grown1 R5 rfl lS7_4 (by first | assumption | exact Kd.R_ne R5 b8 (by decide))
      replace hLi := hLi.grown lS7_4 ⟨hs8, _, _, b8⟩
      replace b8 := c8
      clear c8
      refine E.GL.run rfl rfl rfl (E.Runs.assign rfl rfl) ?_
      refine E.GL.done ?_
      refine E.QG.code ?_
      refine E.CG.seq ?_
      refine E.CG.heldH (none) (by kernel_rfl) fun v8 lD hh => ?_
      replace b7 := blk_below b7 lD
      replace b8 := blk_below b8 lD
      replace R5 := Kd.R_below R5 lD
      replace hLi := hLi.below lD
      clear lD
      have s_b7 := b7
      have s_b8 := b8
      have s_hLi := hLi
      refine E.GH.take (i := 0) rfl (by kernel_rfl) (by kernel_rfl) (by kernel_rfl) (by intro c a d v w h; first | (cases d <;> exact h) | exact nomatch (show _ ∧ _ from h).1) rfl rfl rfl (fun w' hS => (E.Runs.move rfl rfl)) ?_
      refine E.GH.take (i := 1) rfl (by kernel_rfl) (by kernel_rfl) (by kernel_rfl) (by intro c a d v w h; first | (cases d <;> exact h) | exact nomatch (show _ ∧ _ from h).1) rfl rfl rfl (fun w' hS => (E.Runs.nilCheck rfl rfl)) ?_
      refine E.GH.take (i := 2) rfl (by kernel_rfl) (by kernel_rfl) (by kernel_rfl) (by intro c a d v w h; first | (cases d <;> exact h) | exact nomatch (show _ ∧ _ from h).1) rfl rfl rfl (fun w' hS => (E.Runs.fieldAddr rfl rfl hu89 rfl (by assumption) rfl)) ?_
      refine E.GH.take (i := 3) rfl (by kernel_rfl) (by kernel_rfl) (by kernel_rfl) (by intro c a d v w h; first | (cases d <;> exact h) | exact nomatch (show _ ∧ _ from h).1) rfl rfl rfl (fun w' hS => (E.Runs.load1 rfl rfl hu87 rfl (E.blkc (blk_below hO.b4 (below_step s_hLi.k (E.belowG hS))) rfl))) ?_
      refine E.GH.take (i := 4) rfl (by kernel_rfl) (by kernel_rfl) (by kernel_rfl) (by intro c a d v w h; first | (cases d <;> exact h) | exact nomatch (show _ ∧ _ from h).1) rfl rfl rfl (fun w' hS => (E.Runs.move rfl rfl)) ?_
      refine E.GH.take (i := 5) rfl (by kernel_rfl) (by kernel_rfl) (by kernel_rfl) (by intro c a d v w h; first | (cases d <;> exact h) | exact nomatch (show _ ∧ _ from h).1) rfl rfl rfl (fun w' hS => (E.Runs.add rfl rfl rfl (IntWalk.i64_in _ (by omega)))) ?_
      refine E.GH.take (i := 6) rfl (by kernel_rfl) (by kernel_rfl) (by kernel_rfl) (by intro c a d v w h; first | (cases d <;> exact h) | exact nomatch (show _ ∧ _ from h).1) rfl rfl rfl (fun w' hS => (E.Runs.indexAddrA (i := i + 1) rfl rfl (by push_cast; rfl) hu87 z91 o91 (by omega) eAA rfl)) ?_
      refine E.GH.take (i := 7) rfl (by kernel_rfl) (by kernel_rfl) (by kernel_rfl) (by intro c a d v w h; first | (cases d <;> exact h) | exact nomatch (show _ ∧ _ from h).1) rfl rfl rfl (fun w' hS => (E.Runs.load1 rfl rfl hu91 rfl (pw_cell_below (below_step s_hLi.k (E.belowG hS)) XA))) ?_
      refine E.GH.take (i := 8) rfl (by kernel_rfl) (by kernel_rfl) (by kernel_rfl) (by intro c a d v w h; first | (cases d <;> exact h) | exact nomatch (show _ ∧ _ from h).1) rfl rfl rfl (fun w' hS => (E.Runs.loads (cs := [.int .i64 x.f0, .int .i64 x.f1, .int .i64 x.f2]) rfl rfl hu59 rfl info59s (blk_cells (blk_grown s_b8 hS E.nen)))) ?_
      refine E.GH.take (i := 9) rfl (by kernel_rfl) (by kernel_rfl) (by kernel_rfl) (by intro c a d v w h; first | (cases d <;> exact h) | exact nomatch (show _ ∧ _ from h).1) rfl rfl rfl (fun w' hS => (E.Runs.fieldAddr rfl rfl hu69 rfl (by assumption) rfl)) ?_
      refine E.GH.take (i := 10) rfl (by kernel_rfl) (by kernel_rfl) (by kernel_rfl) (by intro c a d v w h; first | (cases d <;> exact h) | exact nomatch (show _ ∧ _ from h).1) rfl rfl rfl (fun w' hS => (E.Runs.loads (cs := [.int .i64 o.b.f0, .int .i64 o.b.f1, .int .i64 o.b.f2]) rfl rfl hu59 rfl info59s (mid69 (blk_grown s_b7 hS E.nen)))) ?_
      by_cases h49 : Fa (i + 1) (x.add o.b) = none
      · refine E.GH.one (i := 11) (by kernel_rfl) rfl ?_
        refine E.GO.st rfl rfl rfl (E.ST.call rfl ent48 (E.evc rfl (E.evc rfl E.evn)) ((plus_calls x o.b _ (hsx.up (by decide)) (hso.up (by decide))).mono ?_))
        rintro e w49 ⟨rfl, l49⟩
        refine ⟨_, rfl, hh.trans (E.gbB l49), ?_⟩
        replace hh := hh.trans (E.gbB l49)
        replace b7 := blk_below b7 l49
        replace b8 := blk_below b8 l49
        replace R5 := Kd.R_below R5 l49
        replace hLi := hLi.below l49
        refine E.GH.take (i := 12) rfl (by kernel_rfl) (by kernel_rfl) (by kernel_rfl) (by intro c a d v w h; first | (cases d <;> exact h) | exact nomatch (show _ ∧ _ from h).1) rfl rfl rfl (fun w' hS => (E.Runs.lookupF rfl rfl kBT rfl hu91 zero3I (mq.below (below_step s_hLi.k (E.belowG hS))) (show _ = Value.tuple #[.int .i64 0, .bool false] from by simp [h49]))) ?_
        refine E.GH.take (i := 13) rfl (by kernel_rfl) (by kernel_rfl) (by kernel_rfl) (by intro c a d v w h; first | (cases d <;> exact h) | exact nomatch (show _ ∧ _ from h).1) rfl rfl rfl (fun w' hS => (E.Runs.move rfl rfl)) ?_
        refine E.GH.take (i := 14) rfl (by kernel_rfl) (by kernel_rfl) (by kernel_rfl) (by intro c a d v w h; first | (cases d <;> exact h) | exact nomatch (show _ ∧ _ from h).1) rfl rfl rfl (fun w' hS => (E.Runs.extract rfl rfl rfl)) ?_
        refine E.GH.take (i := 15) rfl (by kernel_rfl) (by kernel_rfl) (by kernel_rfl) (by intro c a d v w h; first | (cases d <;> exact h) | exact nomatch (show _ ∧ _ from h).1) rfl rfl rfl (fun w' hS => (E.Runs.extract rfl rfl rfl)) ?_
        refine E.GH.take (i := 16) rfl (by kernel_rfl) (by kernel_rfl) (by kernel_rfl) (by intro c a d v w h; first | (cases d <;> exact h) | exact nomatch (show _ ∧ _ from h).1) rfl rfl rfl (fun w' hS => (E.Runs.assign rfl rfl)) ?_
        refine E.GH.take (i := 17) rfl (by kernel_rfl) (by kernel_rfl) (by kernel_rfl) (by intro c a d v w h; first | (cases d <;> exact h) | exact nomatch (show _ ∧ _ from h).1) rfl rfl rfl (fun w' hS => (E.Runs.assign rfl rfl)) ?_
        refine E.GH.done (by kernel_rfl) ?_
        refine E.QG.code ?_
        refine E.CG.seq ?_
        refine E.CG.heldH (none) (by kernel_rfl) fun v9 lD hh => ?_
        replace b7 := blk_below b7 lD
        replace b8 := blk_below b8 lD
        replace R5 := Kd.R_below R5 lD
        replace hLi := hLi.below lD
        clear lD
        have s_b7 := b7
        have s_b8 := b8
        have s_hLi := hLi
        refine E.GH.take (i := 0) rfl (by kernel_rfl) (by kernel_rfl) (by kernel_rfl) (by intro c a d v w h; first | (cases d <;> exact h) | exact nomatch (show _ ∧ _ from h).1) rfl rfl rfl (fun w' hS => (E.Runs.move rfl rfl)) ?_
        refine E.GH.take (i := 1) rfl (by kernel_rfl) (by kernel_rfl) (by kernel_rfl) (by intro c a d v w h; first | (cases d <;> exact h) | exact nomatch (show _ ∧ _ from h).1) rfl rfl rfl (fun w' hS => (E.Runs.move rfl rfl)) ?_
        refine E.GH.pass (i := 2) rfl (by kernel_rfl) (by kernel_rfl) (by kernel_rfl) (by intro c a d v w h; first | (cases d <;> exact h) | exact nomatch (show _ ∧ _ from h).1) rfl rfl rfl ?_
        refine E.GH.pass (i := 3) rfl (by kernel_rfl) (by kernel_rfl) (by kernel_rfl) (by intro c a d v w h; first | (cases d <;> exact h) | exact nomatch (show _ ∧ _ from h).1) rfl rfl rfl ?_
        refine E.GH.pass (i := 4) rfl (by kernel_rfl) (by kernel_rfl) (by kernel_rfl) (by intro c a d v w h; first | (cases d <;> exact h) | exact nomatch (show _ ∧ _ from h).1) rfl rfl rfl ?_
        refine E.GH.pass (i := 5) rfl (by kernel_rfl) (by kernel_rfl) (by kernel_rfl) (by intro c a d v w h; first | (cases d <;> exact h) | exact nomatch (show _ ∧ _ from h).1) rfl rfl rfl ?_
        refine E.GH.pass (i := 6) rfl (by kernel_rfl) (by kernel_rfl) (by kernel_rfl) (by intro c a d v w h; first | (cases d <;> exact h) | exact nomatch (show _ ∧ _ from h).1) rfl rfl rfl ?_
        refine E.GH.pass (i := 7) rfl (by kernel_rfl) (by kernel_rfl) (by kernel_rfl) (by intro c a d v w h; first | (cases d <;> exact h) | exact nomatch (show _ ∧ _ from h).1) rfl rfl rfl ?_
        refine E.GH.pass (i := 8) rfl (by kernel_rfl) (by kernel_rfl) (by kernel_rfl) (by intro c a d v w h; first | (cases d <;> exact h) | exact nomatch (show _ ∧ _ from h).1) rfl rfl rfl ?_
        refine E.GH.pass (i := 9) rfl (by kernel_rfl) (by kernel_rfl) (by kernel_rfl) (by intro c a d v w h; first | (cases d <;> exact h) | exact nomatch (show _ ∧ _ from h).1) rfl rfl rfl ?_
        refine E.GH.pass (i := 10) rfl (by kernel_rfl) (by kernel_rfl) (by kernel_rfl) (by intro c a d v w h; first | (cases d <;> exact h) | exact nomatch (show _ ∧ _ from h).1) rfl rfl rfl ?_
        refine E.GH.take (i := 11) rfl (by kernel_rfl) (by kernel_rfl) (by kernel_rfl) (by intro c a d v w h; first | (cases d <;> exact h) | exact nomatch (show _ ∧ _ from h).1) rfl rfl rfl (fun w' hS => (E.Runs.pick_f rfl rfl rfl)) ?_
        refine E.GH.done (by kernel_rfl) ?_
        refine E.QG.code ?_
        refine E.CG.cond_f rfl ?_
        refine E.CG.skip ?_
        refine E.QG.block_normal ?_
        exact E.QG.round2 (g := S) (d := n) (S ++ [x]) n' (E.subc rfl (E.subc rfl (E.subc rfl (E.subc rfl (E.subc rfl (E.subc rfl (E.subc rfl (E.subc rfl E.subn)))))))) ⟨fun b hb => by
            rcases List.mem_append.mp hb with hb | hb
            · exact hbad b hb
            · rw [List.mem_singleton] at hb
              rintro ⟨m0, q1, r1, q2, q3⟩
              rw [hb] at q1 q2
              rw [hx] at q1
              cases q1
              first
                | (rw [h49] at q2; cases q2)
                | (rw [hr0] at q2; cases q2; omega), b7, R5, hLi⟩ hn'
      · obtain ⟨r0, hr0⟩ := Option.ne_none_iff_exists'.mp h49
        obtain ⟨hr1, hr2⟩ := isA_small hIA (isB_reach hIB hx hwb) (by rw [← hobb]; exact hr0)
        refine E.GH.one (i := 11) (by kernel_rfl) rfl ?_
        refine E.GO.st rfl rfl rfl (E.ST.call rfl ent48 (E.evc rfl (E.evc rfl E.evn)) ((plus_calls x o.b _ (hsx.up (by decide)) (hso.up (by decide))).mono ?_))
        rintro e w49 ⟨rfl, l49⟩
        refine ⟨_, rfl, hh.trans (E.gbB l49), ?_⟩
        replace hh := hh.trans (E.gbB l49)
        replace b7 := blk_below b7 l49
        replace b8 := blk_below b8 l49
        replace R5 := Kd.R_below R5 l49
        replace hLi := hLi.below l49
        refine E.GH.take (i := 12) rfl (by kernel_rfl) (by kernel_rfl) (by kernel_rfl) (by intro c a d v w h; first | (cases d <;> exact h) | exact nomatch (show _ ∧ _ from h).1) rfl rfl rfl (fun w' hS => (E.Runs.lookupF rfl rfl kBT rfl hu91 zero3I (mq.below (below_step s_hLi.k (E.belowG hS))) (show _ = Value.tuple #[.int .i64 r0, .bool true] from by simp [hr0]))) ?_
        refine E.GH.take (i := 13) rfl (by kernel_rfl) (by kernel_rfl) (by kernel_rfl) (by intro c a d v w h; first | (cases d <;> exact h) | exact nomatch (show _ ∧ _ from h).1) rfl rfl rfl (fun w' hS => (E.Runs.move rfl rfl)) ?_
        refine E.GH.take (i := 14) rfl (by kernel_rfl) (by kernel_rfl) (by kernel_rfl) (by intro c a d v w h; first | (cases d <;> exact h) | exact nomatch (show _ ∧ _ from h).1) rfl rfl rfl (fun w' hS => (E.Runs.extract rfl rfl rfl)) ?_
        refine E.GH.take (i := 15) rfl (by kernel_rfl) (by kernel_rfl) (by kernel_rfl) (by intro c a d v w h; first | (cases d <;> exact h) | exact nomatch (show _ ∧ _ from h).1) rfl rfl rfl (fun w' hS => (E.Runs.extract rfl rfl rfl)) ?_
        refine E.GH.take (i := 16) rfl (by kernel_rfl) (by kernel_rfl) (by kernel_rfl) (by intro c a d v w h; first | (cases d <;> exact h) | exact nomatch (show _ ∧ _ from h).1) rfl rfl rfl (fun w' hS => (E.Runs.assign rfl rfl)) ?_
        refine E.GH.take (i := 17) rfl (by kernel_rfl) (by kernel_rfl) (by kernel_rfl) (by intro c a d v w h; first | (cases d <;> exact h) | exact nomatch (show _ ∧ _ from h).1) rfl rfl rfl (fun w' hS => (E.Runs.assign rfl rfl)) ?_
        refine E.GH.done (by kernel_rfl) ?_
        refine E.QG.code ?_
        refine E.CG.seq ?_
        refine E.CG.heldH (none) (by kernel_rfl) fun v9 lD hh => ?_
        replace b7 := blk_below b7 lD
        replace b8 := blk_below b8 lD
        replace R5 := Kd.R_below R5 lD
        replace hLi := hLi.below lD
        clear lD
        have s_b7 := b7
        have s_b8 := b8
        have s_hLi := hLi
        refine E.GH.take (i := 0) rfl (by kernel_rfl) (by kernel_rfl) (by kernel_rfl) (by intro c a d v w h; first | (cases d <;> exact h) | exact nomatch (show _ ∧ _ from h).1) rfl rfl rfl (fun w' hS => (E.Runs.move rfl rfl)) ?_
        refine E.GH.take (i := 1) rfl (by kernel_rfl) (by kernel_rfl) (by kernel_rfl) (by intro c a d v w h; first | (cases d <;> exact h) | exact nomatch (show _ ∧ _ from h).1) rfl rfl rfl (fun w' hS => (E.Runs.move rfl rfl)) ?_
        refine E.GH.take (i := 2) rfl (by kernel_rfl) (by kernel_rfl) (by kernel_rfl) (by intro c a d v w h; first | (cases d <;> exact h) | exact nomatch (show _ ∧ _ from h).1) rfl rfl rfl (fun w' hS => (E.Runs.move rfl rfl)) ?_
        refine E.GH.take (i := 3) rfl (by kernel_rfl) (by kernel_rfl) (by kernel_rfl) (by intro c a d v w h; first | (cases d <;> exact h) | exact nomatch (show _ ∧ _ from h).1) rfl rfl rfl (fun w' hS => (E.Runs.fieldAddr rfl rfl hu69 rfl (by assumption) rfl)) ?_
        refine E.GH.take (i := 4) rfl (by kernel_rfl) (by kernel_rfl) (by kernel_rfl) (by intro c a d v w h; first | (cases d <;> exact h) | exact nomatch (show _ ∧ _ from h).1) rfl rfl rfl (fun w' hS => (E.Runs.load rfl rfl hu3 (E.keeps hS (E.blkc s_b7 rfl) E.nen))) ?_
        refine E.GH.take (i := 5) rfl (by kernel_rfl) (by kernel_rfl) (by kernel_rfl) (by intro c a d v w h; first | (cases d <;> exact h) | exact nomatch (show _ ∧ _ from h).1) rfl rfl rfl (fun w' hS => (E.Runs.add rfl rfl rfl (IntWalk.i64_in _ (by omega)))) ?_
        refine E.GH.take (i := 6) rfl (by kernel_rfl) (by kernel_rfl) (by kernel_rfl) (by intro c a d v w h; first | (cases d <;> exact h) | exact nomatch (show _ ∧ _ from h).1) rfl rfl rfl (fun w' hS => (E.Runs.move rfl rfl)) ?_
        refine E.GH.take (i := 7) rfl (by kernel_rfl) (by kernel_rfl) (by kernel_rfl) (by intro c a d v w h; first | (cases d <;> exact h) | exact nomatch (show _ ∧ _ from h).1) rfl rfl rfl (fun w' hS => (E.Runs.add rfl rfl rfl (IntWalk.i64_in _ (by omega)))) ?_
        refine E.GH.take (i := 8) rfl (by kernel_rfl) (by kernel_rfl) (by kernel_rfl) (by intro c a d v w h; first | (cases d <;> exact h) | exact nomatch (show _ ∧ _ from h).1) rfl rfl rfl (fun w' hS => (E.Runs.move rfl rfl)) ?_
        refine E.GH.one (i := 9) (by kernel_rfl) rfl ?_
        refine E.GO.st rfl rfl rfl (E.ST.call rfl ent50 (E.evc rfl E.evn) ((flaws_calls V m g _ (hO.below hLi.k) N hN0).mono ?_))
        rintro e w62 ⟨rfl, l62⟩
        refine ⟨_, rfl, hh.trans (E.gbB l62), ?_⟩
        replace hh := hh.trans (E.gbB l62)
        replace b7 := blk_below b7 l62
        replace b8 := blk_below b8 l62
        replace R5 := Kd.R_below R5 l62
        replace hLi := hLi.below l62
        refine E.GH.cmp (i := 10) rfl (by kernel_rfl) (by kernel_rfl) (by kernel_rfl) (by intro c a d v w h; first | (cases d <;> exact h) | exact nomatch (show _ ∧ _ from h).1) rfl rfl rfl (fun _ h w' hS => (E.Runs.eql rfl rfl rfl h)) (fun h63 => ?_) (fun h63 => ?_)
        · refine E.GH.take (i := 11) rfl (by kernel_rfl) (by kernel_rfl) (by kernel_rfl) (by intro c a d v w h; first | (cases d <;> exact h) | exact nomatch (show _ ∧ _ from h).1) rfl rfl rfl (fun w' hS => (E.Runs.pick_t rfl rfl rfl)) ?_
          refine E.GH.done (by kernel_rfl) ?_
          refine E.QG.code ?_
          refine E.CG.cond_t rfl ?_
          refine E.CG.seq ?_
          refine E.CG.list ?_
          refine E.GL.run rfl rfl rfl (E.Runs.move rfl rfl) ?_
          refine E.GL.run rfl rfl rfl (E.Runs.loads (cs := [.int .i64 o.f0, .int .i64 o.f1, .int .i64 o.f2, .int .i64 o.f3]) rfl rfl hu69 rfl info69s (blk_cells b7)) ?_
          refine E.GL.st rfl rfl rfl (E.ST.lit rfl (E.epc rfl E.epn) (lit72 o) ?_)
          refine E.GL.st rfl rfl rfl (E.ST.append k69 w.heap.size (w0 := w) (s := .tmp 65) (x := .tmp 67) rfl hu72 info69 rfl (by decide) (by decide) o rfl rfl (k69_mkM _ _ _ _) (fun _ _ => trivial) R5 hLi.k hLi.k.size (by have := lkL_len V N i ((chs V (ct V i)).take k); rw [List.length_take] at this; omega) fun u68 w68 r68 k68 gr68 => ?_)
          have L := k68
          clear k68 R5 gr68
          refine E.GL.run rfl rfl rfl (E.Runs.assign rfl rfl) ?_
          refine E.GL.done ?_
          refine E.QG.code ?_
          refine E.CG.exit ?_
          refine E.QG.block_out rfl ?_
          refine E.QG.pass_exit ?_
          refine E.QG.block_here ?_
          refine E.QG.block_normal ?_
          refine E.QG.code ?_
          refine E.CG.list ?_
          refine E.GL.run rfl rfl rfl (E.Runs.add rfl rfl rfl (IntWalk.i64_in _ (by omega))) ?_
          refine E.GL.run rfl rfl rfl (E.Runs.move rfl rfl) ?_
          refine E.GL.done ?_
          exact E.QG.round2 (d := .slice none 0 0) (k + 1) _ (E.subc rfl (E.subc rfl (E.subc rfl (E.subc rfl (E.subc rfl (E.subc rfl E.subn)))))) (by first | exact ⟨by omega, by rw [lkL_yes ho (hlk.mpr ⟨x, v, hx, r0, hr0, by omega⟩)]; exact r68, L⟩ | exact ⟨by omega, by rw [lkL_no ho (fun q => by obtain ⟨b, m0, q1, r0, q2, q3⟩ := hlk.mp q; exact hbad b (hall b m0 q1) ⟨m0, q1, r0, q2, q3⟩)]; exact R5, hLi.k⟩ | fail) (by omega)
        · refine E.GH.take (i := 11) rfl (by kernel_rfl) (by kernel_rfl) (by kernel_rfl) (by intro c a d v w h; first | (cases d <;> exact h) | exact nomatch (show _ ∧ _ from h).1) rfl rfl rfl (fun w' hS => (E.Runs.pick_t rfl rfl rfl)) ?_
          refine E.GH.done (by kernel_rfl) ?_
          refine E.QG.code ?_
          refine E.CG.cond_f rfl ?_
          refine E.CG.skip ?_
          refine E.QG.block_normal ?_
          exact E.QG.round2 (g := S) (d := n) (S ++ [x]) n' (E.subc rfl (E.subc rfl (E.subc rfl (E.subc rfl (E.subc rfl (E.subc rfl (E.subc rfl (E.subc rfl E.subn)))))))) ⟨fun b hb => by
              rcases List.mem_append.mp hb with hb | hb
              · exact hbad b hb
              · rw [List.mem_singleton] at hb
                rintro ⟨m0, q1, r1, q2, q3⟩
                rw [hb] at q1 q2
                rw [hx] at q1
                cases q1
                first
                  | (rw [h49] at q2; cases q2)
                  | (rw [hr0] at q2; cases q2; omega), b7, R5, hLi⟩ hn'
  · obtain rfl : k = hd.n := by omega
    refine E.GL.done ?_
    refine E.QG.code ?_
    refine E.CG.seq ?_
    refine E.CG.cond_f rfl ?_
    refine E.CG.exit ?_
    refine E.QG.pass_exit ?_
    refine E.QG.pass_exit ?_
    refine E.QG.block_here ?_
    refine E.QG.code ?_
    refine E.CG.seq ?_
    refine E.CG.list ?_
    refine E.GL.run rfl rfl rfl (E.Runs.move rfl rfl) ?_
    refine E.GL.run rfl rfl rfl (E.Runs.assign rfl rfl) ?_
    refine E.GL.done ?_
    refine E.QG.code ?_
    refine E.CG.ret ?_
    exact E.QG.result rfl rfl ⟨_, rfl, by rw [show (chs V (ct V i)) = (chs V (ct V i)).take hd.n from by rw [hdn, List.take_length]]; exact R5, L⟩

end Go.Proofs.Ytiplichdhcmjdaa.T
namespace Go.Proofs.Ytiplichdhcmjdaa.T
open Go.RowKit Go.Proofs.YtiplichdhcmjdaaW.PrintWords Go.Proofs.YtiplichdhcmjdaaW.PrintMore
open Go.Proofs.Ytiplichdhcmjdaa.P
set_option linter.unusedVariables false
section
open Classical
/-- The error of a question about truths. -/
noncomputable def errV (V : Ev) : Int := if VOk V then (if ∃ t, Truth V t then 0 else 3) else 100
/-- The fewest flaws. -/
noncomputable def fewN (V : Ev) : Int := if h : ∃ n, IsFew V n then Classical.choose h else 0
noncomputable def fewA (V : Ev) : Int := if errV V = 0 then fewN V else 0
noncomputable def mnI (p : Int → Prop) : Int := if h : ∃ m, p m ∧ ∀ n, p n → m ≤ n then Classical.choose h else 0
noncomputable def mxI (p : Int → Prop) : Int := if h : ∃ m, p m ∧ ∀ n, p n → n ≤ m then Classical.choose h else 0
/-- The tills of which something holds. -/
noncomputable def tL (V : Ev) (P : Nat → Prop) (n : Nat) : List Int := ((List.range n).filter (fun i => decide (P i))).map (fun (i : Nat) => (i : Int))
noncomputable def tA (V : Ev) (P : Nat → Prop) : List Int := if errV V = 0 then tL V P V.cs.length else []
noncomputable def errT (V : Ev) (till show_ : Int) : Int := if VOk V then (if (0 ≤ till ∧ till ≤ (V.cs.length : Int) - 1) ∧ (0 ≤ show_ ∧ show_ ≤ (V.ps.length : Int) - 1) then (if ∃ t, Truth V t then 0 else 3) else 1) else 100
end
theorem errV_no {V : Ev} (h : ¬ VOk V) : errV V = 100 := by unfold errV; rw [if_neg h]
theorem errV_none {V : Ev} (h : VOk V) (k : ∀ t, ¬ Truth V t) : errV V = 3 := by unfold errV; rw [if_pos h, if_neg (fun ⟨t, ht⟩ => k t ht)]
theorem errV_ok {V : Ev} (h : VOk V) {t : List Bl} (ht : Truth V t) : errV V = 0 := by unfold errV; rw [if_pos h, if_pos ⟨t, ht⟩]
theorem errV_cases (V : Ev) : (¬ VOk V ∧ errV V = 100) ∨ (VOk V ∧ (∀ t, ¬ Truth V t) ∧ errV V = 3) ∨ (VOk V ∧ (∃ t, Truth V t) ∧ errV V = 0) := by
  by_cases h : VOk V
  · by_cases k : ∃ t, Truth V t
    · obtain ⟨t, ht⟩ := k; exact .inr (.inr ⟨h, ⟨t, ht⟩, errV_ok h ht⟩)
    · exact .inr (.inl ⟨h, fun t ht => k ⟨t, ht⟩, errV_none h fun t ht => k ⟨t, ht⟩⟩)
  · exact .inl ⟨h, errV_no h⟩
theorem fewN_eq {V : Ev} {n : Int} (h : IsFew V n) : fewN V = n := by
  unfold fewN
  have hx : ∃ n, IsFew V n := ⟨n, h⟩
  rw [dif_pos hx]
  exact (Classical.choose_spec hx).one h
theorem mnI_eq {p : Int → Prop} {m : Int} (h : p m) (k : ∀ n, p n → m ≤ n) : mnI p = m := by
  unfold mnI
  have hx : ∃ m, p m ∧ ∀ n, p n → m ≤ n := ⟨m, h, k⟩
  rw [dif_pos hx]
  have h1 := (Classical.choose_spec hx).2 m h
  have h2 := k _ (Classical.choose_spec hx).1
  omega
theorem mxI_eq {p : Int → Prop} {m : Int} (h : p m) (k : ∀ n, p n → n ≤ m) : mxI p = m := by
  unfold mxI
  have hx : ∃ m, p m ∧ ∀ n, p n → n ≤ m := ⟨m, h, k⟩
  rw [dif_pos hx]
  have h1 := (Classical.choose_spec hx).2 m h
  have h2 := k _ (Classical.choose_spec hx).1
  omega
theorem least_nat {p : Nat → Prop} : ∀ (b n : Nat), n ≤ b → p n → ∃ m, p m ∧ ∀ k, p k → m ≤ k := by
  intro b
  induction b with
  | zero => intro n hn h; exact ⟨n, h, fun k _ => by omega⟩
  | succ b ih =>
    intro n hn h
    by_cases hx : ∃ k, p k ∧ k < n
    · obtain ⟨k, hk, hlt⟩ := hx
      exact ih k (by omega) hk
    · exact ⟨n, h, fun k hk => Nat.le_of_not_lt fun hlt => hx ⟨k, hk, hlt⟩⟩
theorem few_ex {V : Ev} {t : List Bl} (ht : Truth V t) : ∃ n, IsFew V n := by
  obtain ⟨m, ⟨s, hs, hm⟩, hmin⟩ := least_nat (p := fun k => ∃ s, Truth V s ∧ flT V 0 s = (k : Int)) (flT V 0 t).toNat (flT V 0 t).toNat (Nat.le_refl _) ⟨t, ht, by have := flT_01 V t 0; omega⟩
  refine ⟨m, ⟨s, hs, hm⟩, fun u hu => ?_⟩
  have := flT_01 V u 0
  have := hmin (flT V 0 u).toNat ⟨u, hu, by omega⟩
  omega
theorem fewN_is {V : Ev} {t : List Bl} (ht : Truth V t) : IsFew V (fewN V) := by
  obtain ⟨n, hn⟩ := few_ex ht
  rw [fewN_eq hn]; exact hn
/-- A likely truth. -/
def Lkly (V : Ev) (t : List Bl) : Prop := Truth V t ∧ flT V 0 t = fewN V
theorem lkly_ex {V : Ev} {t : List Bl} (ht : Truth V t) : ∃ s, Lkly V s := (fewN_is ht).1
theorem lk_of {V : Ev} {i : Nat} {b : Bl} : Lk V (fewN V) i b ↔ ∃ t, Lkly V t ∧ t[i]? = some b := ⟨fun ⟨t, a, c, d⟩ => ⟨t, ⟨a, c⟩, d⟩, fun ⟨t, ⟨a, c⟩, d⟩ => ⟨t, a, c, d⟩⟩
def suspP (V : Ev) (i : Nat) : Prop := ∃ t b, Lkly V t ∧ t[i]? = some b ∧ 0 < fl V (ct V i) b
def guiltP (V : Ev) (i : Nat) : Prop := ∀ t b, Lkly V t → t[i]? = some b → 0 < fl V (ct V i) b
/-- A number of what a till sold in a likely truth. -/
def valP (V : Ev) (i : Nat) (q : Bl → Int) (n : Int) : Prop := ∃ t b, Lkly V t ∧ t[i]? = some b ∧ q b = n
noncomputable def loV (V : Ev) (till show_ : Int) (q : Bl → Int) : Int := if errT V till show_ = 0 then mnI (valP V till.toNat q) else 0
noncomputable def hiV (V : Ev) (till show_ : Int) (q : Bl → Int) : Int := if errT V till show_ = 0 then mxI (valP V till.toNat q) else 0
def lackQ (V : Ev) (till : Int) (b : Bl) : Int := due V (ct V till.toNat) b - (ct V till.toNat).f5
/-- What a till sold in likely truths is among its choices. -/
theorem lkL_all {V : Ev} (ok : VOk V) {i : Nat} (hi : i < V.cs.length) {b : Bl} : Lk V (fewN V) i b ↔ mkC V (ct V i) b ∈ lkL V (fewN V) i (chs V (ct V i)) := by
  obtain ⟨c, hc⟩ := get_ex hi
  have hct := ct_of hc
  have hcok := ok.c c (List.mem_of_getElem? hc)
  rw [← hct] at hcok
  rw [lkL_mem, mkC_b]
  constructor
  · intro h
    refine ⟨?_, h⟩
    obtain ⟨t, ht, _, hb⟩ := h
    refine (mem_chs ok.n1 ok.n3 hcok.2.2.2.2.2.2.2.1).mpr ⟨b, ?_, rfl⟩
    have := Ws_get ht.2.1 hb
    rwa [Nat.zero_add] at this
  · exact fun h => h.2
theorem lkL_mk {V : Ev} (ok : VOk V) {i : Nat} (hi : i < V.cs.length) {o : S69} (ho : o ∈ lkL V (fewN V) i (chs V (ct V i))) : o = mkC V (ct V i) o.b := by
  obtain ⟨c, hc⟩ := get_ex hi
  have hct := ct_of hc
  have hcok := ok.c c (List.mem_of_getElem? hc)
  rw [← hct] at hcok
  obtain ⟨b, _, rfl⟩ := (mem_chs ok.n1 ok.n3 hcok.2.2.2.2.2.2.2.1).mp (lkL_mem.mp ho).1
  rfl
theorem susp_iff {V : Ev} (ok : VOk V) {i : Nat} (hi : i < V.cs.length) : suspP V i ↔ ∃ o ∈ lkL V (fewN V) i (chs V (ct V i)), 0 < o.f3 := by
  constructor
  · rintro ⟨t, b, h1, h2, h3⟩
    exact ⟨_, (lkL_all ok hi).mp (lk_of.mpr ⟨t, h1, h2⟩), h3⟩
  · rintro ⟨o, ho, h3⟩
    obtain ⟨t, h1, h2⟩ := lk_of.mp (lkL_mem.mp ho).2
    refine ⟨t, o.b, h1, h2, ?_⟩
    rw [lkL_mk ok hi ho] at h3
    exact h3
theorem guilt_iff {V : Ev} (ok : VOk V) {i : Nat} (hi : i < V.cs.length) : guiltP V i ↔ ¬ ∃ o ∈ lkL V (fewN V) i (chs V (ct V i)), o.f3 = 0 := by
  constructor
  · rintro h ⟨o, ho, h3⟩
    obtain ⟨t, h1, h2⟩ := lk_of.mp (lkL_mem.mp ho).2
    have := h t o.b h1 h2
    rw [lkL_mk ok hi ho, mkC_f] at h3
    omega
  · intro h t b h1 h2
    have h01 := fl_01 V (ct V i) b
    refine Int.not_le.mp fun hle => h ⟨_, (lkL_all ok hi).mp (lk_of.mpr ⟨t, h1, h2⟩), ?_⟩
    rw [mkC_f]
    omega
theorem tL_yes {V : Ev} {P : Nat → Prop} {n : Nat} (h : P n) : tL V P (n + 1) = tL V P n ++ [(n : Int)] := by
  unfold tL
  rw [List.range_succ, List.filter_append, List.map_append]
  simp [h]
theorem tL_no {V : Ev} {P : Nat → Prop} {n : Nat} (h : ¬ P n) : tL V P (n + 1) = tL V P n := by
  unfold tL
  rw [List.range_succ, List.filter_append, List.map_append]
  simp [h]
theorem tL_len (V : Ev) (P : Nat → Prop) (n : Nat) : (tL V P n).length ≤ n := by
  unfold tL
  rw [List.length_map]
  have := List.length_filter_le (fun i => @decide (P i) (Classical.propDecidable _)) (List.range n)
  rw [List.length_range] at this
  exact this
theorem tL_mem {V : Ev} {P : Nat → Prop} {n : Nat} {x : Int} : x ∈ tL V P n ↔ ∃ i : Nat, i < n ∧ P i ∧ x = i := by
  unfold tL
  simp only [List.mem_map, List.mem_filter, List.mem_range, decide_eq_true_eq]
  exact ⟨fun ⟨i, ⟨a, b⟩, c⟩ => ⟨i, a, b, c.symm⟩, fun ⟨i, a, b, c⟩ => ⟨i, ⟨a, b⟩, c.symm⟩⟩
/-- .. of what likely left, as bounds. -/
theorem val_iff {V : Ev} (ok : VOk V) {i : Nat} (hi : i < V.cs.length) {q : Bl → Int} {n : Int} : valP V i q n ↔ ∃ o ∈ lkL V (fewN V) i (chs V (ct V i)), q o.b = n := by
  constructor
  · rintro ⟨t, b, h1, h2, h3⟩
    exact ⟨_, (lkL_all ok hi).mp (lk_of.mpr ⟨t, h1, h2⟩), h3⟩
  · rintro ⟨o, ho, h3⟩
    obtain ⟨t, h1, h2⟩ := lk_of.mp (lkL_mem.mp ho).2
    exact ⟨t, o.b, h1, h2, h3⟩
theorem lkL_pos {V : Ev} (ok : VOk V) {i : Nat} (hi : i < V.cs.length) {t : List Bl} (ht : Truth V t) : 0 < (lkL V (fewN V) i (chs V (ct V i))).length := by
  obtain ⟨s, hs⟩ := lkly_ex ht
  obtain ⟨b, hb⟩ := get_ex (show i < s.length by rw [hs.1.1]; exact hi)
  exact List.length_pos_of_mem ((lkL_all ok hi).mp (lk_of.mpr ⟨s, hs, hb⟩))
end Go.Proofs.Ytiplichdhcmjdaa.T
namespace Go.Proofs.Ytiplichdhcmjdaa.T
open Go.RowKit Go.Proofs.YtiplichdhcmjdaaW.PrintWords Go.Proofs.YtiplichdhcmjdaaW.PrintMore
open Go.Proofs.Ytiplichdhcmjdaa.P
set_option linter.unusedVariables false
set_option linter.unusedSimpArgs false

theorem ok_b {w : World} {V : Ev} {m : Ea} {g : Nat} {C : List Hd} {G D : List (Option Nat)} {Ac Ab Aa : Option Addr} {cc cb ca : Nat} {F Fa : Nat → Bl → Option Int} (h : Op w V m g C G D Ac Ab Aa cc cb ca F Fa) : IsB V V.cs.length (F V.cs.length) := by
  obtain ⟨_, _, _, q⟩ := h.hb V.cs.length (Nat.le_refl _)
  exact q
theorem ok_a {w : World} {V : Ev} {m : Ea} {g : Nat} {C : List Hd} {G D : List (Option Nat)} {Ac Ab Aa : Option Addr} {cc cb ca : Nat} {F Fa : Nat → Bl → Option Int} (h : Op w V m g C G D Ac Ab Aa cc cb ca F Fa) : IsA V 0 (Fa 0) := by
  obtain ⟨_, _, _, q⟩ := h.ha 0 (Nat.zero_le _)
  exact q
theorem fewA_no {V : Ev} (h : ¬ VOk V) : fewA V = 0 := by unfold fewA; rw [errV_no h]; rfl
theorem fewA_none {V : Ev} (h : VOk V) (k : ∀ t, ¬ Truth V t) : fewA V = 0 := by unfold fewA; rw [errV_none h k]; rfl
theorem fewA_ok {V : Ev} (h : VOk V) {t : List Bl} (k : Truth V t) : fewA V = fewN V := by unfold fewA; rw [errV_ok h k]; rfl
theorem tA_no {V : Ev} {P : Nat → Prop} (h : ¬ VOk V) : tA V P = [] := by unfold tA; rw [errV_no h]; rfl
theorem tA_none {V : Ev} {P : Nat → Prop} (h : VOk V) (k : ∀ t, ¬ Truth V t) : tA V P = [] := by unfold tA; rw [errV_none h k]; rfl
theorem tA_ok {V : Ev} {P : Nat → Prop} (h : VOk V) {t : List Bl} (k : Truth V t) : tA V P = tL V P V.cs.length := by unfold tA; rw [errV_ok h k]; rfl
set_option maxRecDepth 100000 in
set_option maxHeartbeats 8000000 in

theorem fewest_calls (V : Ev) (m : Ea) (w : World) (hV : EvM w V m) (hs : Sz V) :
    Calls Try.prog 15 #[hv V m] w fun e w' => e = .returned (.tuple #[.int .i64 (fewA V), .int .i64 (errV V)]) ∧ Below w.heap.size w w' := by
  have hu3 := Try.underlying3
  have hu25 := Try.underlying25
  have hu28 := Try.underlying28
  refine E.enter (N := 16) Try.func15 rfl Try.ntmps15 (args := [hv V m]) (by simp) ?_
  have L := Below.refl w.heap.size w
  refine E.CG.seq ?_
  refine E.CG.list ?_
  refine E.GL.st rfl rfl rfl (E.ST.box rfl rfl fun g1 w1 e1 b1 l1 => ?_)
  have h1_L : w.heap.size ≤ g1 := by rw [e1]; exact L.size
  replace L := below_step L l1
  refine E.GL.run rfl rfl rfl (E.Runs.assign rfl rfl) ?_
  refine E.GL.run rfl rfl rfl (E.Runs.assign rfl rfl) ?_
  refine E.GL.done ?_
  refine E.QG.code ?_
  refine E.CG.seq ?_
  refine E.CG.list ?_
  refine E.GL.run rfl rfl rfl (E.Runs.loads (cs := [.slice m.A V.ps.length m.a, .slice m.B V.qs.length m.b, .slice m.C V.ts.length m.c, .slice m.D V.cs.length m.d]) rfl rfl hu25 rfl info25s (blk_cells b1)) ?_
  refine E.GL.st rfl rfl rfl (E.ST.call rfl ent49 (E.evc rfl E.evn) ((open_calls V m _ (hV.below L) hs).mono ?_))
  rintro e w8 ⟨p, Er, rfl, hO, l8⟩
  refine ⟨_, rfl, ?_⟩
  replace b1 := blk_below b1 l8
  replace L := below_step L l8
  refine E.GL.run rfl rfl rfl (E.Runs.move rfl rfl) ?_
  refine E.GL.run rfl rfl rfl (E.Runs.extract rfl rfl rfl) ?_
  refine E.GL.run rfl rfl rfl (E.Runs.extract rfl rfl rfl) ?_
  refine E.GL.run rfl rfl rfl (E.Runs.assign rfl rfl) ?_
  refine E.GL.run rfl rfl rfl (E.Runs.assign rfl rfl) ?_
  refine E.GL.done ?_
  refine E.QG.code ?_
  refine E.CG.seq ?_
  refine E.CG.seq ?_
  refine E.CG.list ?_
  refine E.GL.run rfl rfl rfl (E.Runs.move rfl rfl) ?_
  obtain ⟨hok, rfl, rfl⟩ | ⟨hok, hno, rfl, rfl⟩ | ⟨hok, rfl, g, C, G, D, Ac, Ab, Aa, cc, cb, ca, F, Fa, rfl, hF, hO⟩ := hO
  · refine E.GL.run rfl rfl rfl (E.Runs.neq rfl rfl rfl rfl) ?_
    refine E.GL.done ?_
    refine E.QG.code ?_
    refine E.CG.cond_t rfl ?_
    refine E.CG.seq ?_
    refine E.CG.list ?_
    refine E.GL.run rfl rfl rfl (E.Runs.move rfl rfl) ?_
    refine E.GL.run rfl rfl rfl (E.Runs.assign rfl rfl) ?_
    refine E.GL.run rfl rfl rfl (E.Runs.assign rfl rfl) ?_
    refine E.GL.done ?_
    refine E.QG.code ?_
    refine E.CG.ret ?_
    refine E.QG.pass_ret ?_
    exact E.QG.result2 rfl rfl rfl ⟨by rw [fewA_no hok, errV_no hok] <;> rfl, L⟩
  · refine E.GL.run rfl rfl rfl (E.Runs.neq rfl rfl rfl rfl) ?_
    refine E.GL.done ?_
    refine E.QG.code ?_
    refine E.CG.cond_t rfl ?_
    refine E.CG.seq ?_
    refine E.CG.list ?_
    refine E.GL.run rfl rfl rfl (E.Runs.move rfl rfl) ?_
    refine E.GL.run rfl rfl rfl (E.Runs.assign rfl rfl) ?_
    refine E.GL.run rfl rfl rfl (E.Runs.assign rfl rfl) ?_
    refine E.GL.done ?_
    refine E.QG.code ?_
    refine E.CG.ret ?_
    refine E.QG.pass_ret ?_
    exact E.QG.result2 rfl rfl rfl ⟨by rw [fewA_none hok hno, errV_none hok hno] <;> rfl, L⟩
  · obtain ⟨N, hN0, hN⟩ := few_some (ok_b hO) hF (ok_a hO)
    obtain ⟨t0, ht0⟩ := hN.1
    have hfN := fewN_eq hN
    refine E.GL.run rfl rfl rfl (E.Runs.neq rfl rfl rfl rfl) ?_
    refine E.GL.done ?_
    refine E.QG.code ?_
    refine E.CG.cond_f rfl ?_
    refine E.CG.skip ?_
    refine E.QG.code ?_
    refine E.CG.seq ?_
    refine E.CG.list ?_
    refine E.GL.run rfl rfl rfl (E.Runs.move rfl rfl) ?_
    refine E.GL.st rfl rfl rfl (E.ST.call rfl ent50 (E.evc rfl E.evn) ((flaws_calls V m g _ hO N hN0).mono ?_))
    rintro e w15 ⟨rfl, l15⟩
    refine ⟨_, rfl, ?_⟩
    replace b1 := blk_below b1 l15
    replace L := below_step L l15
    refine E.GL.run rfl rfl rfl (E.Runs.assign rfl rfl) ?_
    refine E.GL.run rfl rfl rfl (E.Runs.assign rfl rfl) ?_
    refine E.GL.done ?_
    refine E.QG.code ?_
    refine E.CG.ret ?_
    exact E.QG.result2 rfl rfl rfl ⟨by rw [fewA_ok hok ht0.1, hfN, errV_ok hok ht0.1], L⟩

set_option maxRecDepth 100000 in
set_option maxHeartbeats 8000000 in

theorem index_flawed (l : List S69) (A : Option Addr) (c : Nat) (w : World) (hr : Kd.C k69 w A l.length l) (hn : l.length ≤ 1000000) :
    Calls Try.prog 77 #[.slice A l.length c, .func (.func 56) #[] #[]] w fun e w' => ∃ r : Int, e = .returned (.int .i64 r) ∧ (0 ≤ r ↔ ∃ o ∈ l, 0 < o.f3) ∧ Below w.heap.size w w' := by
  have hu3 := Try.underlying3
  have hu69 := Try.underlying69
  have hu72 := Try.underlying72
  obtain ⟨z69, o69⟩ := info_some info69s (by decide)
  refine E.enter (N := 19) Try.func77 rfl Try.ntmps77 (args := [.slice A l.length c, .func (.func 56) #[] #[]]) (by simp) ?_
  have L := Below.refl w.heap.size w
  refine E.CG.seq ?_
  refine E.CG.list ?_
  refine E.GL.run rfl rfl rfl (E.Runs.assign rfl rfl) ?_
  refine E.GL.done ?_
  refine E.QG.code ?_
  refine E.CG.seq ?_
  refine E.CG.seq ?_
  refine E.CG.list ?_
  refine E.GL.run rfl rfl rfl (E.Runs.move rfl rfl) ?_
  refine E.GL.run rfl rfl rfl (E.Runs.len rfl rfl hu72) ?_
  refine E.GL.run rfl rfl rfl (E.Runs.move rfl rfl) ?_
  refine E.GL.done ?_
  refine E.QG.code ?_
  refine E.CG.block ?_
  have s2_L := L
  refine E.CG.loop (fun (i : Nat) => [(0, .slice A l.length c), (1, .func (.func 56) #[] #[]), (7, .int .i64 l.length), (8, .int .i64 i)]) (fun i w' => i ≤ l.length ∧ Below w.heap.size w w' ∧ ∀ k, k < i → ∀ o, l[k]? = some o → ¬ (0 < o.f3)) (fun i => l.length - i) 0 (E.subc rfl (E.subc rfl (E.subc rfl (E.subc rfl E.subn)))) ⟨Nat.zero_le _, L, fun k hk => by omega⟩ ?_
  rintro i w2 ⟨hi, L, hok⟩
  refine E.CG.seq ?_
  refine E.CG.list ?_
  refine E.GL.cmp rfl rfl rfl (fun _ h => (E.Runs.lss rfl rfl rfl h)) (fun h9 => ?_) (fun h9 => ?_)
  · obtain ⟨o, ho⟩ := get_ex (show i < l.length by omega)
    obtain ⟨ao, eO, XO⟩ := ch_at hr ho
    refine E.GL.done ?_
    refine E.QG.code ?_
    refine E.CG.seq ?_
    refine E.CG.cond_t rfl ?_
    refine E.CG.skip ?_
    refine E.QG.code ?_
    refine E.CG.seq ?_
    refine E.CG.block ?_
    refine E.CG.seq ?_
    refine E.CG.list ?_
    refine E.GL.run rfl rfl rfl (E.Runs.move rfl rfl) ?_
    refine E.GL.run rfl rfl rfl (E.Runs.assign rfl rfl) ?_
    refine E.GL.done ?_
    refine E.QG.code ?_
    refine E.CG.seq ?_
    refine E.CG.list ?_
    refine E.GL.run rfl rfl rfl (E.Runs.move rfl rfl) ?_
    refine E.GL.run rfl rfl rfl (E.Runs.move rfl rfl) ?_
    refine E.GL.run rfl rfl rfl (E.Runs.move rfl rfl) ?_
    refine E.GL.run rfl rfl rfl (E.Runs.indexAddrA (i := i) rfl rfl rfl hu72 z69 o69 (by omega) eO rfl) ?_
    refine E.GL.run rfl rfl rfl (E.Runs.loads (cs := [.int .i64 o.f0, .int .i64 o.f1, .int .i64 o.f2, .int .i64 o.f3]) rfl rfl hu69 rfl info69s (fun j v hv => pw_cell_below L (XO j v hv))) ?_
    by_cases h16 : 0 < o.f3
    · refine E.GL.st rfl rfl rfl (E.ST.callV (cap := []) rfl ent56 rfl (E.evc rfl E.evn) ((flawed_calls o true (iff_of_true rfl h16) _).mono ?_))
      rintro e w16 ⟨rfl, l16⟩
      refine ⟨_, rfl, ?_⟩
      replace L := below_step L l16
      refine E.GL.done ?_
      refine E.QG.code ?_
      refine E.CG.cond_t rfl ?_
      refine E.CG.seq ?_
      refine E.CG.list ?_
      refine E.GL.run rfl rfl rfl (E.Runs.move rfl rfl) ?_
      refine E.GL.run rfl rfl rfl (E.Runs.assign rfl rfl) ?_
      refine E.GL.done ?_
      refine E.QG.code ?_
      refine E.CG.ret ?_
      refine E.QG.block_ret ?_
      refine E.QG.pass_ret ?_
      refine E.QG.pass_ret ?_
      refine E.QG.block_ret ?_
      refine E.QG.pass_ret ?_
      exact E.QG.result rfl rfl ⟨_, rfl, iff_of_true (by omega) ⟨o, List.mem_of_getElem? ho, h16⟩, L⟩
    · refine E.GL.st rfl rfl rfl (E.ST.callV (cap := []) rfl ent56 rfl (E.evc rfl E.evn) ((flawed_calls o false (iff_of_false Bool.false_ne_true h16) _).mono ?_))
      rintro e w16 ⟨rfl, l16⟩
      refine ⟨_, rfl, ?_⟩
      replace L := below_step L l16
      refine E.GL.done ?_
      refine E.QG.code ?_
      refine E.CG.cond_f rfl ?_
      refine E.CG.skip ?_
      refine E.QG.block_normal ?_
      refine E.QG.code ?_
      refine E.CG.list ?_
      refine E.GL.run rfl rfl rfl (E.Runs.add rfl rfl rfl (IntWalk.i64_in _ (by omega))) ?_
      refine E.GL.run rfl rfl rfl (E.Runs.move rfl rfl) ?_
      refine E.GL.done ?_
      exact E.QG.round (i + 1) (E.subc rfl (E.subc rfl (E.subc rfl (E.subc rfl E.subn)))) ⟨by omega, L, all_more hok ho h16⟩ (by omega)
  · refine E.GL.done ?_
    refine E.QG.code ?_
    refine E.CG.seq ?_
    refine E.CG.cond_f rfl ?_
    refine E.CG.exit ?_
    refine E.QG.pass_exit ?_
    refine E.QG.pass_exit ?_
    refine E.QG.block_here ?_
    refine E.QG.code ?_
    refine E.CG.seq ?_
    refine E.CG.list ?_
    refine E.GL.run rfl rfl rfl (E.Runs.assign rfl rfl) ?_
    refine E.GL.done ?_
    refine E.QG.code ?_
    refine E.CG.ret ?_
    exact E.QG.result rfl rfl ⟨_, rfl, iff_of_false (by omega) (fun ⟨o, k1, k2⟩ => all_done hok (by omega) o k1 k2), L⟩

set_option maxRecDepth 100000 in
set_option maxHeartbeats 8000000 in

theorem contains_flawed (l : List S69) (A : Option Addr) (c : Nat) (w : World) (hr : Kd.C k69 w A l.length l) (hn : l.length ≤ 1000000) (r : Bool) (hb : r = true ↔ ∃ o ∈ l, 0 < o.f3) :
    Calls Try.prog 55 #[.slice A l.length c, .func (.func 56) #[] #[]] w fun e w' => e = .returned (.bool r) ∧ Below w.heap.size w w' := by
  have hu3 := Try.underlying3
  have hu72 := Try.underlying72
  refine E.enter (N := 9) Try.func55 rfl Try.ntmps55 (args := [.slice A l.length c, .func (.func 56) #[] #[]]) (by simp) ?_
  have L := Below.refl w.heap.size w
  refine E.CG.seq ?_
  refine E.CG.list ?_
  refine E.GL.run rfl rfl rfl (E.Runs.assign rfl rfl) ?_
  refine E.GL.done ?_
  refine E.QG.code ?_
  refine E.CG.seq ?_
  refine E.CG.list ?_
  refine E.GL.run rfl rfl rfl (E.Runs.move rfl rfl) ?_
  refine E.GL.run rfl rfl rfl (E.Runs.move rfl rfl) ?_
  refine E.GL.st rfl rfl rfl (E.ST.call rfl ent77 (E.evc rfl (E.evc rfl E.evn)) ((index_flawed l A c _ (Kd.C_below hr L) hn).mono ?_))
  rintro e w7 ⟨q, rfl, hq, l7⟩
  refine ⟨_, rfl, ?_⟩
  replace L := below_step L l7
  refine E.GL.cmp rfl rfl rfl (fun _ h => (E.Runs.geq rfl rfl rfl h)) (fun h8 => ?_) (fun h8 => ?_)
  · refine E.GL.run rfl rfl rfl (E.Runs.assign rfl rfl) ?_
    refine E.GL.done ?_
    refine E.QG.code ?_
    refine E.CG.ret ?_
    exact E.QG.result rfl rfl ⟨by rw [hb.mpr (hq.mp h8)], L⟩
  · refine E.GL.run rfl rfl rfl (E.Runs.assign rfl rfl) ?_
    refine E.GL.done ?_
    refine E.QG.code ?_
    refine E.CG.ret ?_
    exact E.QG.result rfl rfl ⟨by rw [bool_no hb (fun k => h8 (hq.mpr k))], L⟩

set_option maxRecDepth 100000 in
set_option maxHeartbeats 8000000 in

theorem clo_flawed (l : List S69) (A : Option Addr) (c : Nat) (w : World) (hr : Kd.C k69 w A l.length l) (hn : l.length ≤ 1000000) (r : Bool) (hb : r = true ↔ ∃ o ∈ l, 0 < o.f3) :
    Calls Try.prog 54 #[.slice A l.length c] w fun e w' => e = .returned (.bool r) ∧ Below w.heap.size w w' := by
  have hu3 := Try.underlying3
  have hu72 := Try.underlying72
  refine E.enter (N := 5) Try.func54 rfl Try.ntmps54 (args := [.slice A l.length c]) (by simp) ?_
  have L := Below.refl w.heap.size w
  refine E.CG.seq ?_
  refine E.CG.list ?_
  refine E.GL.run rfl rfl rfl (E.Runs.assign rfl rfl) ?_
  refine E.GL.done ?_
  refine E.QG.code ?_
  refine E.CG.seq ?_
  refine E.CG.list ?_
  refine E.GL.run rfl rfl rfl (E.Runs.move rfl rfl) ?_
  by_cases h4 : ∃ o ∈ l, 0 < o.f3
  · refine E.GL.st rfl rfl rfl (E.ST.call rfl ent55 (E.evc rfl (E.evc rfl E.evn)) ((contains_flawed l A c _ (Kd.C_below hr L) hn true (iff_of_true rfl h4)).mono ?_))
    rintro e w4 ⟨rfl, l4⟩
    refine ⟨_, rfl, ?_⟩
    replace L := below_step L l4
    refine E.GL.run rfl rfl rfl (E.Runs.assign rfl rfl) ?_
    refine E.GL.done ?_
    refine E.QG.code ?_
    refine E.CG.ret ?_
    exact E.QG.result rfl rfl ⟨by rw [hb.mpr h4] <;> rfl, L⟩
  · refine E.GL.st rfl rfl rfl (E.ST.call rfl ent55 (E.evc rfl (E.evc rfl E.evn)) ((contains_flawed l A c _ (Kd.C_below hr L) hn false (iff_of_false Bool.false_ne_true h4)).mono ?_))
    rintro e w4 ⟨rfl, l4⟩
    refine ⟨_, rfl, ?_⟩
    replace L := below_step L l4
    refine E.GL.run rfl rfl rfl (E.Runs.assign rfl rfl) ?_
    refine E.GL.done ?_
    refine E.QG.code ?_
    refine E.CG.ret ?_
    exact E.QG.result rfl rfl ⟨by rw [bool_no hb h4] <;> rfl, L⟩

set_option maxRecDepth 100000 in
set_option maxHeartbeats 8000000 in

theorem tills_flawed (V : Ev) (m : Ea) (w : World) (hV : EvM w V m) (hs : Sz V) :
    Calls Try.prog 53 #[hv V m, .func (.func 54) #[] #[]] w fun e w' => ∃ v, e = .returned (.tuple #[v, .int .i64 (errV V)]) ∧ Kd.R kI 3 w' w.heap.size (fun _ => True) v (tA V (suspP V)) ∧ Below w.heap.size w w' := by
  have hsc := hs.c
  have hu3 := Try.underlying3
  have hu22 := Try.underlying22
  have hu23 := Try.underlying23
  have hu25 := Try.underlying25
  have hu28 := Try.underlying28
  have hu72 := Try.underlying72
  obtain ⟨z23, o23⟩ := info_some info23s (by decide)
  refine E.enter (N := 35) Try.func53 rfl Try.ntmps53 (args := [hv V m, .func (.func 54) #[] #[]]) (by simp) ?_
  have L := Below.refl w.heap.size w
  refine E.CG.seq ?_
  refine E.CG.list ?_
  refine E.GL.st rfl rfl rfl (E.ST.box rfl rfl fun g2 w2 e2 b2 l2 => ?_)
  have h2_L : w.heap.size ≤ g2 := by rw [e2]; exact L.size
  replace L := below_step L l2
  refine E.GL.run rfl rfl rfl (E.Runs.assign rfl rfl) ?_
  refine E.GL.run rfl rfl rfl (E.Runs.assign rfl rfl) ?_
  refine E.GL.done ?_
  refine E.QG.code ?_
  refine E.CG.seq ?_
  refine E.CG.list ?_
  refine E.GL.run rfl rfl rfl (E.Runs.loads (cs := [.slice m.A V.ps.length m.a, .slice m.B V.qs.length m.b, .slice m.C V.ts.length m.c, .slice m.D V.cs.length m.d]) rfl rfl hu25 rfl info25s (blk_cells b2)) ?_
  refine E.GL.st rfl rfl rfl (E.ST.call rfl ent49 (E.evc rfl E.evn) ((open_calls V m _ (hV.below L) hs).mono ?_))
  rintro e w12 ⟨p, Er, rfl, hO, l12⟩
  refine ⟨_, rfl, ?_⟩
  replace b2 := blk_below b2 l12
  replace L := below_step L l12
  refine E.GL.run rfl rfl rfl (E.Runs.move rfl rfl) ?_
  refine E.GL.run rfl rfl rfl (E.Runs.extract rfl rfl rfl) ?_
  refine E.GL.run rfl rfl rfl (E.Runs.extract rfl rfl rfl) ?_
  refine E.GL.run rfl rfl rfl (E.Runs.assign rfl rfl) ?_
  refine E.GL.run rfl rfl rfl (E.Runs.assign rfl rfl) ?_
  refine E.GL.done ?_
  refine E.QG.code ?_
  refine E.CG.seq ?_
  refine E.CG.seq ?_
  refine E.CG.list ?_
  refine E.GL.run rfl rfl rfl (E.Runs.move rfl rfl) ?_
  obtain ⟨hok, rfl, rfl⟩ | ⟨hok, hno, rfl, rfl⟩ | ⟨hok, rfl, g, C, G, D, Ac, Ab, Aa, cc, cb, ca, F, Fa, rfl, hF, hO⟩ := hO
  · refine E.GL.run rfl rfl rfl (E.Runs.neq rfl rfl rfl rfl) ?_
    refine E.GL.done ?_
    refine E.QG.code ?_
    refine E.CG.cond_t rfl ?_
    refine E.CG.seq ?_
    refine E.CG.list ?_
    refine E.GL.run rfl rfl rfl (E.Runs.move rfl rfl) ?_
    refine E.GL.run rfl rfl rfl (E.Runs.assign rfl rfl) ?_
    refine E.GL.run rfl rfl rfl (E.Runs.assign rfl rfl) ?_
    refine E.GL.done ?_
    refine E.QG.code ?_
    refine E.CG.ret ?_
    refine E.QG.pass_ret ?_
    exact E.QG.result2 rfl rfl rfl ⟨_, by rw [errV_no hok] <;> rfl, by rw [tA_no hok]; exact Kd.R_nil _ _ _ _ _, L⟩
  · refine E.GL.run rfl rfl rfl (E.Runs.neq rfl rfl rfl rfl) ?_
    refine E.GL.done ?_
    refine E.QG.code ?_
    refine E.CG.cond_t rfl ?_
    refine E.CG.seq ?_
    refine E.CG.list ?_
    refine E.GL.run rfl rfl rfl (E.Runs.move rfl rfl) ?_
    refine E.GL.run rfl rfl rfl (E.Runs.assign rfl rfl) ?_
    refine E.GL.run rfl rfl rfl (E.Runs.assign rfl rfl) ?_
    refine E.GL.done ?_
    refine E.QG.code ?_
    refine E.CG.ret ?_
    refine E.QG.pass_ret ?_
    exact E.QG.result2 rfl rfl rfl ⟨_, by rw [errV_none hok hno] <;> rfl, by rw [tA_none hok hno]; exact Kd.R_nil _ _ _ _ _, L⟩
  · obtain ⟨N, hN0, hN⟩ := few_some (ok_b hO) hF (ok_a hO)
    obtain ⟨t0, ht0⟩ := hN.1
    have hfN := fewN_eq hN
    rw [← hfN] at hN hN0
    have K := Below.refl w12.heap.size w12
    have hc4 := hok.c4
    refine E.GL.run rfl rfl rfl (E.Runs.neq rfl rfl rfl rfl) ?_
    refine E.GL.done ?_
    refine E.QG.code ?_
    refine E.CG.cond_f rfl ?_
    refine E.CG.skip ?_
    refine E.QG.code ?_
    refine E.CG.seq ?_
    refine E.CG.list ?_
    refine E.GL.run rfl rfl rfl (E.Runs.assign rfl rfl) ?_
    refine E.GL.done ?_
    refine E.QG.code ?_
    refine E.CG.seq ?_
    refine E.CG.seq ?_
    refine E.CG.list ?_
    refine E.GL.run rfl rfl rfl (E.Runs.fieldAddr rfl rfl hu25 rfl (by assumption) rfl) ?_
    refine E.GL.run rfl rfl rfl (E.Runs.load1 rfl rfl hu23 rfl (by first | assumption | exact E.blkc (by assumption) rfl | exact pw_cell_below L (by assumption))) ?_
    refine E.GL.run rfl rfl rfl (E.Runs.len rfl rfl hu23) ?_
    refine E.GL.run rfl rfl rfl (E.Runs.move rfl rfl) ?_
    refine E.GL.done ?_
    refine E.QG.code ?_
    refine E.CG.block ?_
    have s6_b2 := b2
    have s6_L := L
    refine E.CG.loop2 (fun (i : Nat) (v8 : Value) => [(1, .func (.func 54) #[] #[]), (2, .pointer (some ⟨g2, 0, none⟩)), (6, .pointer (some ⟨g, 0, none⟩)), (8, v8), (20, .int .i64 V.cs.length), (21, .int .i64 i)]) (fun i v8 w' => i ≤ V.cs.length ∧ Kd.R kI 3 w' w12.heap.size (fun _ => True) v8 (tL V (suspP V) i) ∧ w'.heap[g2]? = some (.cells #[.slice m.A V.ps.length m.a, .slice m.B V.qs.length m.b, .slice m.C V.ts.length m.c, .slice m.D V.cs.length m.d] 25 (0, 0)) ∧ Below w12.heap.size w12 w') (fun i v8 => V.cs.length - i) 0 (.slice none 0 0) (E.subc rfl (E.subc rfl (E.subc rfl (E.subc rfl (E.subc rfl (E.subc rfl E.subn)))))) ⟨Nat.zero_le _, Kd.R_nil _ _ _ _ _, b2, K⟩ ?_
    rintro i v8 w6 ⟨hi, R8, b2, K⟩
    refine E.CG.seq ?_
    refine E.CG.list ?_
    refine E.GL.cmp rfl rfl rfl (fun _ h => (E.Runs.lss rfl rfl rfl h)) (fun h22 => ?_) (fun h22 => ?_)
    · refine E.GL.done ?_
      refine E.QG.code ?_
      refine E.CG.seq ?_
      refine E.CG.cond_t rfl ?_
      refine E.CG.skip ?_
      refine E.QG.code ?_
      refine E.CG.seq ?_
      refine E.CG.block ?_
      refine E.CG.seq ?_
      refine E.CG.list ?_
      refine E.GL.run rfl rfl rfl (E.Runs.move rfl rfl) ?_
      refine E.GL.run rfl rfl rfl (E.Runs.assign rfl rfl) ?_
      refine E.GL.done ?_
      refine E.QG.code ?_
      refine E.CG.seq ?_
      refine E.CG.list ?_
      refine E.GL.run rfl rfl rfl (E.Runs.move rfl rfl) ?_
      refine E.GL.run rfl rfl rfl (E.Runs.move rfl rfl) ?_
      refine E.GL.run rfl rfl rfl (E.Runs.move rfl rfl) ?_
      refine E.GL.st rfl rfl rfl (E.ST.call rfl ent76 (E.evc rfl (E.evc rfl E.evn)) ((likely_calls V m g _ (hO.below K) hok (fewN V) hN0 hN i (by omega)).mono ?_))
      rintro e w27 ⟨v27, rfl, R27, l27⟩
      refine ⟨_, rfl, ?_⟩
      replace b2 := blk_below b2 l27
      replace R8 := Kd.R_below R8 l27
      replace K := below_step K l27
      obtain ⟨A27, c27, rfl, _, hR27⟩ := Kd.R_reads R27
      have hl27 : (lkL V (fewN V) i (chs V (ct V i))).length ≤ 1000000 := by
        obtain ⟨c, hc⟩ := get_ex (show i < V.cs.length by omega)
        have hcl := chs_len hok (hok.c c (List.mem_of_getElem? hc))
        have := lkL_len V (fewN V) i (chs V (ct V i))
        rw [ct_of hc] at this
        rw [ct_of hc]
        omega
      by_cases h28 : suspP V i
      · refine E.GL.st rfl rfl rfl (E.ST.callV (cap := []) rfl ent54 rfl (E.evc rfl E.evn) ((clo_flawed (lkL V (fewN V) i (chs V (ct V i))) A27 c27 _ hR27 hl27 true (by rw [← susp_iff hok (show i < V.cs.length by omega)]; exact (iff_of_true rfl h28))).mono ?_))
        rintro e w28 ⟨rfl, l28⟩
        refine ⟨_, rfl, ?_⟩
        replace K := below_step K l28
        replace R8 := Kd.R_below R8 l28
        replace b2 := blk_below b2 l28
        refine E.GL.done ?_
        refine E.QG.code ?_
        refine E.CG.cond_t rfl ?_
        refine E.CG.list ?_
        refine E.GL.run rfl rfl rfl (E.Runs.move rfl rfl) ?_
        refine E.GL.run rfl rfl rfl (E.Runs.move rfl rfl) ?_
        refine E.GL.st rfl rfl rfl (E.ST.lit rfl (E.epc rfl E.epn) (lit22 _) ?_)
        refine E.GL.st rfl rfl rfl (E.ST.append kI w12.heap.size (w0 := w12) (s := .tmp 29) (x := .tmp 31) rfl hu22 info3 rfl (by decide) (by decide) (i : Int) rfl rfl rfl (fun _ _ => trivial) R8 K K.size (by have := tL_len V (suspP V) i; omega) fun u32 w32 r32 k32 gr32 => ?_)
        replace b2 := blk_grown b2 gr32 (Kd.R_ne R8 b2 (by decide))
        replace K := k32
        refine E.GL.run rfl rfl rfl (E.Runs.assign rfl rfl) ?_
        refine E.GL.done ?_
        refine E.QG.block_normal ?_
        refine E.QG.code ?_
        refine E.CG.list ?_
        refine E.GL.run rfl rfl rfl (E.Runs.add rfl rfl rfl (IntWalk.i64_in _ (by omega))) ?_
        refine E.GL.run rfl rfl rfl (E.Runs.move rfl rfl) ?_
        refine E.GL.done ?_
        exact E.QG.round2 (d := .slice none 0 0) (i + 1) _ (E.subc rfl (E.subc rfl (E.subc rfl (E.subc rfl (E.subc rfl (E.subc rfl E.subn)))))) (by first | exact ⟨by omega, by rw [tL_yes h28]; exact r32, b2, K⟩ | exact ⟨by omega, by rw [tL_no h28]; exact R8, b2, K⟩ | fail) (by omega)
      · refine E.GL.st rfl rfl rfl (E.ST.callV (cap := []) rfl ent54 rfl (E.evc rfl E.evn) ((clo_flawed (lkL V (fewN V) i (chs V (ct V i))) A27 c27 _ hR27 hl27 false (by rw [← susp_iff hok (show i < V.cs.length by omega)]; exact (iff_of_false Bool.false_ne_true h28))).mono ?_))
        rintro e w28 ⟨rfl, l28⟩
        refine ⟨_, rfl, ?_⟩
        replace K := below_step K l28
        replace R8 := Kd.R_below R8 l28
        replace b2 := blk_below b2 l28
        refine E.GL.done ?_
        refine E.QG.code ?_
        refine E.CG.cond_f rfl ?_
        refine E.CG.skip ?_
        refine E.QG.block_normal ?_
        refine E.QG.code ?_
        refine E.CG.list ?_
        refine E.GL.run rfl rfl rfl (E.Runs.add rfl rfl rfl (IntWalk.i64_in _ (by omega))) ?_
        refine E.GL.run rfl rfl rfl (E.Runs.move rfl rfl) ?_
        refine E.GL.done ?_
        exact E.QG.round2 (d := .slice none 0 0) (i + 1) _ (E.subc rfl (E.subc rfl (E.subc rfl (E.subc rfl (E.subc rfl (E.subc rfl E.subn)))))) (by first | exact ⟨by omega, by rw [tL_yes h28]; exact r32, b2, K⟩ | exact ⟨by omega, by rw [tL_no h28]; exact R8, b2, K⟩ | fail) (by omega)
    · refine E.GL.done ?_
      refine E.QG.code ?_
      refine E.CG.seq ?_
      refine E.CG.cond_f rfl ?_
      refine E.CG.exit ?_
      refine E.QG.pass_exit ?_
      refine E.QG.pass_exit ?_
      refine E.QG.block_here ?_
      refine E.QG.code ?_
      refine E.CG.seq ?_
      refine E.CG.list ?_
      refine E.GL.run rfl rfl rfl (E.Runs.move rfl rfl) ?_
      refine E.GL.run rfl rfl rfl (E.Runs.assign rfl rfl) ?_
      refine E.GL.run rfl rfl rfl (E.Runs.assign rfl rfl) ?_
      refine E.GL.done ?_
      refine E.QG.code ?_
      refine E.CG.ret ?_
      exact E.QG.result2 rfl rfl rfl ⟨_, by rw [errV_ok hok ht0.1], by rw [tA_ok hok ht0.1, show V.cs.length = i by omega]; exact Kd.R_lower R8 s6_L.size, below_step s6_L K⟩

set_option maxRecDepth 100000 in
set_option maxHeartbeats 8000000 in

theorem suspects_calls (V : Ev) (m : Ea) (w : World) (hV : EvM w V m) (hs : Sz V) :
    Calls Try.prog 17 #[hv V m] w fun e w' => ∃ v, e = .returned (.tuple #[v, .int .i64 (errV V)]) ∧ Kd.R kI 3 w' w.heap.size (fun _ => True) v (tA V (suspP V)) ∧ Below w.heap.size w w' := by
  have hu3 := Try.underlying3
  have hu25 := Try.underlying25
  refine E.enter (N := 8) Try.func17 rfl Try.ntmps17 (args := [hv V m]) (by simp) ?_
  have L := Below.refl w.heap.size w
  refine E.CG.seq ?_
  refine E.CG.list ?_
  refine E.GL.st rfl rfl rfl (E.ST.box rfl rfl fun g1 w1 e1 b1 l1 => ?_)
  have h1_L : w.heap.size ≤ g1 := by rw [e1]; exact L.size
  replace L := below_step L l1
  refine E.GL.run rfl rfl rfl (E.Runs.assign rfl rfl) ?_
  refine E.GL.run rfl rfl rfl (E.Runs.assign rfl rfl) ?_
  refine E.GL.done ?_
  refine E.QG.code ?_
  refine E.CG.seq ?_
  refine E.CG.list ?_
  refine E.GL.run rfl rfl rfl (E.Runs.loads (cs := [.slice m.A V.ps.length m.a, .slice m.B V.qs.length m.b, .slice m.C V.ts.length m.c, .slice m.D V.cs.length m.d]) rfl rfl hu25 rfl info25s (blk_cells b1)) ?_
  have L0 := L
  refine E.GL.st rfl rfl rfl (E.ST.call rfl ent53 (E.evc rfl (E.evc rfl E.evn)) ((tills_flawed V m _ (hV.below L) hs).mono ?_))
  rintro e w5 ⟨v, rfl, R, l5⟩
  refine ⟨_, rfl, ?_⟩
  replace b1 := blk_below b1 l5
  replace L := below_step L l5
  refine E.GL.run rfl rfl rfl (E.Runs.extract rfl rfl rfl) ?_
  refine E.GL.run rfl rfl rfl (E.Runs.extract rfl rfl rfl) ?_
  refine E.GL.run rfl rfl rfl (E.Runs.assign rfl rfl) ?_
  refine E.GL.run rfl rfl rfl (E.Runs.assign rfl rfl) ?_
  refine E.GL.done ?_
  refine E.QG.code ?_
  refine E.CG.ret ?_
  exact E.QG.result2 rfl rfl rfl ⟨_, rfl, Kd.R_lower R L0.size, L⟩

set_option maxRecDepth 100000 in
set_option maxHeartbeats 8000000 in

theorem index_sound (l : List S69) (A : Option Addr) (c : Nat) (w : World) (hr : Kd.C k69 w A l.length l) (hn : l.length ≤ 1000000) :
    Calls Try.prog 77 #[.slice A l.length c, .func (.func 62) #[] #[]] w fun e w' => ∃ r : Int, e = .returned (.int .i64 r) ∧ (0 ≤ r ↔ ∃ o ∈ l, o.f3 = 0) ∧ Below w.heap.size w w' := by
  have hu3 := Try.underlying3
  have hu69 := Try.underlying69
  have hu72 := Try.underlying72
  obtain ⟨z69, o69⟩ := info_some info69s (by decide)
  refine E.enter (N := 19) Try.func77 rfl Try.ntmps77 (args := [.slice A l.length c, .func (.func 62) #[] #[]]) (by simp) ?_
  have L := Below.refl w.heap.size w
  refine E.CG.seq ?_
  refine E.CG.list ?_
  refine E.GL.run rfl rfl rfl (E.Runs.assign rfl rfl) ?_
  refine E.GL.done ?_
  refine E.QG.code ?_
  refine E.CG.seq ?_
  refine E.CG.seq ?_
  refine E.CG.list ?_
  refine E.GL.run rfl rfl rfl (E.Runs.move rfl rfl) ?_
  refine E.GL.run rfl rfl rfl (E.Runs.len rfl rfl hu72) ?_
  refine E.GL.run rfl rfl rfl (E.Runs.move rfl rfl) ?_
  refine E.GL.done ?_
  refine E.QG.code ?_
  refine E.CG.block ?_
  have s2_L := L
  refine E.CG.loop (fun (i : Nat) => [(0, .slice A l.length c), (1, .func (.func 62) #[] #[]), (7, .int .i64 l.length), (8, .int .i64 i)]) (fun i w' => i ≤ l.length ∧ Below w.heap.size w w' ∧ ∀ k, k < i → ∀ o, l[k]? = some o → ¬ (o.f3 = 0)) (fun i => l.length - i) 0 (E.subc rfl (E.subc rfl (E.subc rfl (E.subc rfl E.subn)))) ⟨Nat.zero_le _, L, fun k hk => by omega⟩ ?_
  rintro i w2 ⟨hi, L, hok⟩
  refine E.CG.seq ?_
  refine E.CG.list ?_
  refine E.GL.cmp rfl rfl rfl (fun _ h => (E.Runs.lss rfl rfl rfl h)) (fun h9 => ?_) (fun h9 => ?_)
  · obtain ⟨o, ho⟩ := get_ex (show i < l.length by omega)
    obtain ⟨ao, eO, XO⟩ := ch_at hr ho
    refine E.GL.done ?_
    refine E.QG.code ?_
    refine E.CG.seq ?_
    refine E.CG.cond_t rfl ?_
    refine E.CG.skip ?_
    refine E.QG.code ?_
    refine E.CG.seq ?_
    refine E.CG.block ?_
    refine E.CG.seq ?_
    refine E.CG.list ?_
    refine E.GL.run rfl rfl rfl (E.Runs.move rfl rfl) ?_
    refine E.GL.run rfl rfl rfl (E.Runs.assign rfl rfl) ?_
    refine E.GL.done ?_
    refine E.QG.code ?_
    refine E.CG.seq ?_
    refine E.CG.list ?_
    refine E.GL.run rfl rfl rfl (E.Runs.move rfl rfl) ?_
    refine E.GL.run rfl rfl rfl (E.Runs.move rfl rfl) ?_
    refine E.GL.run rfl rfl rfl (E.Runs.move rfl rfl) ?_
    refine E.GL.run rfl rfl rfl (E.Runs.indexAddrA (i := i) rfl rfl rfl hu72 z69 o69 (by omega) eO rfl) ?_
    refine E.GL.run rfl rfl rfl (E.Runs.loads (cs := [.int .i64 o.f0, .int .i64 o.f1, .int .i64 o.f2, .int .i64 o.f3]) rfl rfl hu69 rfl info69s (fun j v hv => pw_cell_below L (XO j v hv))) ?_
    by_cases h16 : o.f3 = 0
    · refine E.GL.st rfl rfl rfl (E.ST.callV (cap := []) rfl ent62 rfl (E.evc rfl E.evn) ((sound_calls o true (iff_of_true rfl h16) _).mono ?_))
      rintro e w16 ⟨rfl, l16⟩
      refine ⟨_, rfl, ?_⟩
      replace L := below_step L l16
      refine E.GL.done ?_
      refine E.QG.code ?_
      refine E.CG.cond_t rfl ?_
      refine E.CG.seq ?_
      refine E.CG.list ?_
      refine E.GL.run rfl rfl rfl (E.Runs.move rfl rfl) ?_
      refine E.GL.run rfl rfl rfl (E.Runs.assign rfl rfl) ?_
      refine E.GL.done ?_
      refine E.QG.code ?_
      refine E.CG.ret ?_
      refine E.QG.block_ret ?_
      refine E.QG.pass_ret ?_
      refine E.QG.pass_ret ?_
      refine E.QG.block_ret ?_
      refine E.QG.pass_ret ?_
      exact E.QG.result rfl rfl ⟨_, rfl, iff_of_true (by omega) ⟨o, List.mem_of_getElem? ho, h16⟩, L⟩
    · refine E.GL.st rfl rfl rfl (E.ST.callV (cap := []) rfl ent62 rfl (E.evc rfl E.evn) ((sound_calls o false (iff_of_false Bool.false_ne_true h16) _).mono ?_))
      rintro e w16 ⟨rfl, l16⟩
      refine ⟨_, rfl, ?_⟩
      replace L := below_step L l16
      refine E.GL.done ?_
      refine E.QG.code ?_
      refine E.CG.cond_f rfl ?_
      refine E.CG.skip ?_
      refine E.QG.block_normal ?_
      refine E.QG.code ?_
      refine E.CG.list ?_
      refine E.GL.run rfl rfl rfl (E.Runs.add rfl rfl rfl (IntWalk.i64_in _ (by omega))) ?_
      refine E.GL.run rfl rfl rfl (E.Runs.move rfl rfl) ?_
      refine E.GL.done ?_
      exact E.QG.round (i + 1) (E.subc rfl (E.subc rfl (E.subc rfl (E.subc rfl E.subn)))) ⟨by omega, L, all_more hok ho h16⟩ (by omega)
  · refine E.GL.done ?_
    refine E.QG.code ?_
    refine E.CG.seq ?_
    refine E.CG.cond_f rfl ?_
    refine E.CG.exit ?_
    refine E.QG.pass_exit ?_
    refine E.QG.pass_exit ?_
    refine E.QG.block_here ?_
    refine E.QG.code ?_
    refine E.CG.seq ?_
    refine E.CG.list ?_
    refine E.GL.run rfl rfl rfl (E.Runs.assign rfl rfl) ?_
    refine E.GL.done ?_
    refine E.QG.code ?_
    refine E.CG.ret ?_
    exact E.QG.result rfl rfl ⟨_, rfl, iff_of_false (by omega) (fun ⟨o, k1, k2⟩ => all_done hok (by omega) o k1 k2), L⟩

set_option maxRecDepth 100000 in
set_option maxHeartbeats 8000000 in

theorem contains_sound (l : List S69) (A : Option Addr) (c : Nat) (w : World) (hr : Kd.C k69 w A l.length l) (hn : l.length ≤ 1000000) (r : Bool) (hb : r = true ↔ ∃ o ∈ l, o.f3 = 0) :
    Calls Try.prog 55 #[.slice A l.length c, .func (.func 62) #[] #[]] w fun e w' => e = .returned (.bool r) ∧ Below w.heap.size w w' := by
  have hu3 := Try.underlying3
  have hu72 := Try.underlying72
  refine E.enter (N := 9) Try.func55 rfl Try.ntmps55 (args := [.slice A l.length c, .func (.func 62) #[] #[]]) (by simp) ?_
  have L := Below.refl w.heap.size w
  refine E.CG.seq ?_
  refine E.CG.list ?_
  refine E.GL.run rfl rfl rfl (E.Runs.assign rfl rfl) ?_
  refine E.GL.done ?_
  refine E.QG.code ?_
  refine E.CG.seq ?_
  refine E.CG.list ?_
  refine E.GL.run rfl rfl rfl (E.Runs.move rfl rfl) ?_
  refine E.GL.run rfl rfl rfl (E.Runs.move rfl rfl) ?_
  refine E.GL.st rfl rfl rfl (E.ST.call rfl ent77 (E.evc rfl (E.evc rfl E.evn)) ((index_sound l A c _ (Kd.C_below hr L) hn).mono ?_))
  rintro e w7 ⟨q, rfl, hq, l7⟩
  refine ⟨_, rfl, ?_⟩
  replace L := below_step L l7
  refine E.GL.cmp rfl rfl rfl (fun _ h => (E.Runs.geq rfl rfl rfl h)) (fun h8 => ?_) (fun h8 => ?_)
  · refine E.GL.run rfl rfl rfl (E.Runs.assign rfl rfl) ?_
    refine E.GL.done ?_
    refine E.QG.code ?_
    refine E.CG.ret ?_
    exact E.QG.result rfl rfl ⟨by rw [hb.mpr (hq.mp h8)], L⟩
  · refine E.GL.run rfl rfl rfl (E.Runs.assign rfl rfl) ?_
    refine E.GL.done ?_
    refine E.QG.code ?_
    refine E.CG.ret ?_
    exact E.QG.result rfl rfl ⟨by rw [bool_no hb (fun k => h8 (hq.mpr k))], L⟩

set_option maxRecDepth 100000 in
set_option maxHeartbeats 8000000 in

theorem clo_sound (l : List S69) (A : Option Addr) (c : Nat) (w : World) (hr : Kd.C k69 w A l.length l) (hn : l.length ≤ 1000000) (r : Bool) (hb : r = true ↔ ¬ ∃ o ∈ l, o.f3 = 0) :
    Calls Try.prog 61 #[.slice A l.length c] w fun e w' => e = .returned (.bool r) ∧ Below w.heap.size w w' := by
  have hu3 := Try.underlying3
  have hu72 := Try.underlying72
  refine E.enter (N := 6) Try.func61 rfl Try.ntmps61 (args := [.slice A l.length c]) (by simp) ?_
  have L := Below.refl w.heap.size w
  refine E.CG.seq ?_
  refine E.CG.list ?_
  refine E.GL.run rfl rfl rfl (E.Runs.assign rfl rfl) ?_
  refine E.GL.done ?_
  refine E.QG.code ?_
  refine E.CG.seq ?_
  refine E.CG.list ?_
  refine E.GL.run rfl rfl rfl (E.Runs.move rfl rfl) ?_
  by_cases h4 : ∃ o ∈ l, o.f3 = 0
  · refine E.GL.st rfl rfl rfl (E.ST.call rfl ent55 (E.evc rfl (E.evc rfl E.evn)) ((contains_sound l A c _ (Kd.C_below hr L) hn true (iff_of_true rfl h4)).mono ?_))
    rintro e w4 ⟨rfl, l4⟩
    refine ⟨_, rfl, ?_⟩
    replace L := below_step L l4
    refine E.GL.run rfl rfl rfl (E.Runs.not rfl rfl) ?_
    refine E.GL.run rfl rfl rfl (E.Runs.assign rfl rfl) ?_
    refine E.GL.done ?_
    refine E.QG.code ?_
    refine E.CG.ret ?_
    exact E.QG.result rfl rfl ⟨by rw [bool_no hb (fun k => k h4)]; rfl, L⟩
  · refine E.GL.st rfl rfl rfl (E.ST.call rfl ent55 (E.evc rfl (E.evc rfl E.evn)) ((contains_sound l A c _ (Kd.C_below hr L) hn false (iff_of_false Bool.false_ne_true h4)).mono ?_))
    rintro e w4 ⟨rfl, l4⟩
    refine ⟨_, rfl, ?_⟩
    replace L := below_step L l4
    refine E.GL.run rfl rfl rfl (E.Runs.not rfl rfl) ?_
    refine E.GL.run rfl rfl rfl (E.Runs.assign rfl rfl) ?_
    refine E.GL.done ?_
    refine E.QG.code ?_
    refine E.CG.ret ?_
    exact E.QG.result rfl rfl ⟨by rw [hb.mpr h4]; rfl, L⟩

set_option maxRecDepth 100000 in
set_option maxHeartbeats 8000000 in

theorem tills_sound (V : Ev) (m : Ea) (w : World) (hV : EvM w V m) (hs : Sz V) :
    Calls Try.prog 53 #[hv V m, .func (.func 61) #[] #[]] w fun e w' => ∃ v, e = .returned (.tuple #[v, .int .i64 (errV V)]) ∧ Kd.R kI 3 w' w.heap.size (fun _ => True) v (tA V (guiltP V)) ∧ Below w.heap.size w w' := by
  have hsc := hs.c
  have hu3 := Try.underlying3
  have hu22 := Try.underlying22
  have hu23 := Try.underlying23
  have hu25 := Try.underlying25
  have hu28 := Try.underlying28
  have hu72 := Try.underlying72
  obtain ⟨z23, o23⟩ := info_some info23s (by decide)
  refine E.enter (N := 35) Try.func53 rfl Try.ntmps53 (args := [hv V m, .func (.func 61) #[] #[]]) (by simp) ?_
  have L := Below.refl w.heap.size w
  refine E.CG.seq ?_
  refine E.CG.list ?_
  refine E.GL.st rfl rfl rfl (E.ST.box rfl rfl fun g2 w2 e2 b2 l2 => ?_)
  have h2_L : w.heap.size ≤ g2 := by rw [e2]; exact L.size
  replace L := below_step L l2
  refine E.GL.run rfl rfl rfl (E.Runs.assign rfl rfl) ?_
  refine E.GL.run rfl rfl rfl (E.Runs.assign rfl rfl) ?_
  refine E.GL.done ?_
  refine E.QG.code ?_
  refine E.CG.seq ?_
  refine E.CG.list ?_
  refine E.GL.run rfl rfl rfl (E.Runs.loads (cs := [.slice m.A V.ps.length m.a, .slice m.B V.qs.length m.b, .slice m.C V.ts.length m.c, .slice m.D V.cs.length m.d]) rfl rfl hu25 rfl info25s (blk_cells b2)) ?_
  refine E.GL.st rfl rfl rfl (E.ST.call rfl ent49 (E.evc rfl E.evn) ((open_calls V m _ (hV.below L) hs).mono ?_))
  rintro e w12 ⟨p, Er, rfl, hO, l12⟩
  refine ⟨_, rfl, ?_⟩
  replace b2 := blk_below b2 l12
  replace L := below_step L l12
  refine E.GL.run rfl rfl rfl (E.Runs.move rfl rfl) ?_
  refine E.GL.run rfl rfl rfl (E.Runs.extract rfl rfl rfl) ?_
  refine E.GL.run rfl rfl rfl (E.Runs.extract rfl rfl rfl) ?_
  refine E.GL.run rfl rfl rfl (E.Runs.assign rfl rfl) ?_
  refine E.GL.run rfl rfl rfl (E.Runs.assign rfl rfl) ?_
  refine E.GL.done ?_
  refine E.QG.code ?_
  refine E.CG.seq ?_
  refine E.CG.seq ?_
  refine E.CG.list ?_
  refine E.GL.run rfl rfl rfl (E.Runs.move rfl rfl) ?_
  obtain ⟨hok, rfl, rfl⟩ | ⟨hok, hno, rfl, rfl⟩ | ⟨hok, rfl, g, C, G, D, Ac, Ab, Aa, cc, cb, ca, F, Fa, rfl, hF, hO⟩ := hO
  · refine E.GL.run rfl rfl rfl (E.Runs.neq rfl rfl rfl rfl) ?_
    refine E.GL.done ?_
    refine E.QG.code ?_
    refine E.CG.cond_t rfl ?_
    refine E.CG.seq ?_
    refine E.CG.list ?_
    refine E.GL.run rfl rfl rfl (E.Runs.move rfl rfl) ?_
    refine E.GL.run rfl rfl rfl (E.Runs.assign rfl rfl) ?_
    refine E.GL.run rfl rfl rfl (E.Runs.assign rfl rfl) ?_
    refine E.GL.done ?_
    refine E.QG.code ?_
    refine E.CG.ret ?_
    refine E.QG.pass_ret ?_
    exact E.QG.result2 rfl rfl rfl ⟨_, by rw [errV_no hok] <;> rfl, by rw [tA_no hok]; exact Kd.R_nil _ _ _ _ _, L⟩
  · refine E.GL.run rfl rfl rfl (E.Runs.neq rfl rfl rfl rfl) ?_
    refine E.GL.done ?_
    refine E.QG.code ?_
    refine E.CG.cond_t rfl ?_
    refine E.CG.seq ?_
    refine E.CG.list ?_
    refine E.GL.run rfl rfl rfl (E.Runs.move rfl rfl) ?_
    refine E.GL.run rfl rfl rfl (E.Runs.assign rfl rfl) ?_
    refine E.GL.run rfl rfl rfl (E.Runs.assign rfl rfl) ?_
    refine E.GL.done ?_
    refine E.QG.code ?_
    refine E.CG.ret ?_
    refine E.QG.pass_ret ?_
    exact E.QG.result2 rfl rfl rfl ⟨_, by rw [errV_none hok hno] <;> rfl, by rw [tA_none hok hno]; exact Kd.R_nil _ _ _ _ _, L⟩
  · obtain ⟨N, hN0, hN⟩ := few_some (ok_b hO) hF (ok_a hO)
    obtain ⟨t0, ht0⟩ := hN.1
    have hfN := fewN_eq hN
    rw [← hfN] at hN hN0
    have K := Below.refl w12.heap.size w12
    have hc4 := hok.c4
    refine E.GL.run rfl rfl rfl (E.Runs.neq rfl rfl rfl rfl) ?_
    refine E.GL.done ?_
    refine E.QG.code ?_
    refine E.CG.cond_f rfl ?_
    refine E.CG.skip ?_
    refine E.QG.code ?_
    refine E.CG.seq ?_
    refine E.CG.list ?_
    refine E.GL.run rfl rfl rfl (E.Runs.assign rfl rfl) ?_
    refine E.GL.done ?_
    refine E.QG.code ?_
    refine E.CG.seq ?_
    refine E.CG.seq ?_
    refine E.CG.list ?_
    refine E.GL.run rfl rfl rfl (E.Runs.fieldAddr rfl rfl hu25 rfl (by assumption) rfl) ?_
    refine E.GL.run rfl rfl rfl (E.Runs.load1 rfl rfl hu23 rfl (by first | assumption | exact E.blkc (by assumption) rfl | exact pw_cell_below L (by assumption))) ?_
    refine E.GL.run rfl rfl rfl (E.Runs.len rfl rfl hu23) ?_
    refine E.GL.run rfl rfl rfl (E.Runs.move rfl rfl) ?_
    refine E.GL.done ?_
    refine E.QG.code ?_
    refine E.CG.block ?_
    have s6_b2 := b2
    have s6_L := L
    refine E.CG.loop2 (fun (i : Nat) (v8 : Value) => [(1, .func (.func 61) #[] #[]), (2, .pointer (some ⟨g2, 0, none⟩)), (6, .pointer (some ⟨g, 0, none⟩)), (8, v8), (20, .int .i64 V.cs.length), (21, .int .i64 i)]) (fun i v8 w' => i ≤ V.cs.length ∧ Kd.R kI 3 w' w12.heap.size (fun _ => True) v8 (tL V (guiltP V) i) ∧ w'.heap[g2]? = some (.cells #[.slice m.A V.ps.length m.a, .slice m.B V.qs.length m.b, .slice m.C V.ts.length m.c, .slice m.D V.cs.length m.d] 25 (0, 0)) ∧ Below w12.heap.size w12 w') (fun i v8 => V.cs.length - i) 0 (.slice none 0 0) (E.subc rfl (E.subc rfl (E.subc rfl (E.subc rfl (E.subc rfl (E.subc rfl E.subn)))))) ⟨Nat.zero_le _, Kd.R_nil _ _ _ _ _, b2, K⟩ ?_
    rintro i v8 w6 ⟨hi, R8, b2, K⟩
    refine E.CG.seq ?_
    refine E.CG.list ?_
    refine E.GL.cmp rfl rfl rfl (fun _ h => (E.Runs.lss rfl rfl rfl h)) (fun h22 => ?_) (fun h22 => ?_)
    · refine E.GL.done ?_
      refine E.QG.code ?_
      refine E.CG.seq ?_
      refine E.CG.cond_t rfl ?_
      refine E.CG.skip ?_
      refine E.QG.code ?_
      refine E.CG.seq ?_
      refine E.CG.block ?_
      refine E.CG.seq ?_
      refine E.CG.list ?_
      refine E.GL.run rfl rfl rfl (E.Runs.move rfl rfl) ?_
      refine E.GL.run rfl rfl rfl (E.Runs.assign rfl rfl) ?_
      refine E.GL.done ?_
      refine E.QG.code ?_
      refine E.CG.seq ?_
      refine E.CG.list ?_
      refine E.GL.run rfl rfl rfl (E.Runs.move rfl rfl) ?_
      refine E.GL.run rfl rfl rfl (E.Runs.move rfl rfl) ?_
      refine E.GL.run rfl rfl rfl (E.Runs.move rfl rfl) ?_
      refine E.GL.st rfl rfl rfl (E.ST.call rfl ent76 (E.evc rfl (E.evc rfl E.evn)) ((likely_calls V m g _ (hO.below K) hok (fewN V) hN0 hN i (by omega)).mono ?_))
      rintro e w27 ⟨v27, rfl, R27, l27⟩
      refine ⟨_, rfl, ?_⟩
      replace b2 := blk_below b2 l27
      replace R8 := Kd.R_below R8 l27
      replace K := below_step K l27
      obtain ⟨A27, c27, rfl, _, hR27⟩ := Kd.R_reads R27
      have hl27 : (lkL V (fewN V) i (chs V (ct V i))).length ≤ 1000000 := by
        obtain ⟨c, hc⟩ := get_ex (show i < V.cs.length by omega)
        have hcl := chs_len hok (hok.c c (List.mem_of_getElem? hc))
        have := lkL_len V (fewN V) i (chs V (ct V i))
        rw [ct_of hc] at this
        rw [ct_of hc]
        omega
      by_cases h28 : guiltP V i
      · refine E.GL.st rfl rfl rfl (E.ST.callV (cap := []) rfl ent61 rfl (E.evc rfl E.evn) ((clo_sound (lkL V (fewN V) i (chs V (ct V i))) A27 c27 _ hR27 hl27 true (by rw [← guilt_iff hok (show i < V.cs.length by omega)]; exact (iff_of_true rfl h28))).mono ?_))
        rintro e w28 ⟨rfl, l28⟩
        refine ⟨_, rfl, ?_⟩
        replace K := below_step K l28
        replace R8 := Kd.R_below R8 l28
        replace b2 := blk_below b2 l28
        refine E.GL.done ?_
        refine E.QG.code ?_
        refine E.CG.cond_t rfl ?_
        refine E.CG.list ?_
        refine E.GL.run rfl rfl rfl (E.Runs.move rfl rfl) ?_
        refine E.GL.run rfl rfl rfl (E.Runs.move rfl rfl) ?_
        refine E.GL.st rfl rfl rfl (E.ST.lit rfl (E.epc rfl E.epn) (lit22 _) ?_)
        refine E.GL.st rfl rfl rfl (E.ST.append kI w12.heap.size (w0 := w12) (s := .tmp 29) (x := .tmp 31) rfl hu22 info3 rfl (by decide) (by decide) (i : Int) rfl rfl rfl (fun _ _ => trivial) R8 K K.size (by have := tL_len V (guiltP V) i; omega) fun u32 w32 r32 k32 gr32 => ?_)
        replace b2 := blk_grown b2 gr32 (Kd.R_ne R8 b2 (by decide))
        replace K := k32
        refine E.GL.run rfl rfl rfl (E.Runs.assign rfl rfl) ?_
        refine E.GL.done ?_
        refine E.QG.block_normal ?_
        refine E.QG.code ?_
        refine E.CG.list ?_
        refine E.GL.run rfl rfl rfl (E.Runs.add rfl rfl rfl (IntWalk.i64_in _ (by omega))) ?_
        refine E.GL.run rfl rfl rfl (E.Runs.move rfl rfl) ?_
        refine E.GL.done ?_
        exact E.QG.round2 (d := .slice none 0 0) (i + 1) _ (E.subc rfl (E.subc rfl (E.subc rfl (E.subc rfl (E.subc rfl (E.subc rfl E.subn)))))) (by first | exact ⟨by omega, by rw [tL_yes h28]; exact r32, b2, K⟩ | exact ⟨by omega, by rw [tL_no h28]; exact R8, b2, K⟩ | fail) (by omega)
      · refine E.GL.st rfl rfl rfl (E.ST.callV (cap := []) rfl ent61 rfl (E.evc rfl E.evn) ((clo_sound (lkL V (fewN V) i (chs V (ct V i))) A27 c27 _ hR27 hl27 false (by rw [← guilt_iff hok (show i < V.cs.length by omega)]; exact (iff_of_false Bool.false_ne_true h28))).mono ?_))
        rintro e w28 ⟨rfl, l28⟩
        refine ⟨_, rfl, ?_⟩
        replace K := below_step K l28
        replace R8 := Kd.R_below R8 l28
        replace b2 := blk_below b2 l28
        refine E.GL.done ?_
        refine E.QG.code ?_
        refine E.CG.cond_f rfl ?_
        refine E.CG.skip ?_
        refine E.QG.block_normal ?_
        refine E.QG.code ?_
        refine E.CG.list ?_
        refine E.GL.run rfl rfl rfl (E.Runs.add rfl rfl rfl (IntWalk.i64_in _ (by omega))) ?_
        refine E.GL.run rfl rfl rfl (E.Runs.move rfl rfl) ?_
        refine E.GL.done ?_
        exact E.QG.round2 (d := .slice none 0 0) (i + 1) _ (E.subc rfl (E.subc rfl (E.subc rfl (E.subc rfl (E.subc rfl (E.subc rfl E.subn)))))) (by first | exact ⟨by omega, by rw [tL_yes h28]; exact r32, b2, K⟩ | exact ⟨by omega, by rw [tL_no h28]; exact R8, b2, K⟩ | fail) (by omega)
    · refine E.GL.done ?_
      refine E.QG.code ?_
      refine E.CG.seq ?_
      refine E.CG.cond_f rfl ?_
      refine E.CG.exit ?_
      refine E.QG.pass_exit ?_
      refine E.QG.pass_exit ?_
      refine E.QG.block_here ?_
      refine E.QG.code ?_
      refine E.CG.seq ?_
      refine E.CG.list ?_
      refine E.GL.run rfl rfl rfl (E.Runs.move rfl rfl) ?_
      refine E.GL.run rfl rfl rfl (E.Runs.assign rfl rfl) ?_
      refine E.GL.run rfl rfl rfl (E.Runs.assign rfl rfl) ?_
      refine E.GL.done ?_
      refine E.QG.code ?_
      refine E.CG.ret ?_
      exact E.QG.result2 rfl rfl rfl ⟨_, by rw [errV_ok hok ht0.1], by rw [tA_ok hok ht0.1, show V.cs.length = i by omega]; exact Kd.R_lower R8 s6_L.size, below_step s6_L K⟩

set_option maxRecDepth 100000 in
set_option maxHeartbeats 8000000 in

theorem guilty_calls (V : Ev) (m : Ea) (w : World) (hV : EvM w V m) (hs : Sz V) :
    Calls Try.prog 23 #[hv V m] w fun e w' => ∃ v, e = .returned (.tuple #[v, .int .i64 (errV V)]) ∧ Kd.R kI 3 w' w.heap.size (fun _ => True) v (tA V (guiltP V)) ∧ Below w.heap.size w w' := by
  have hu3 := Try.underlying3
  have hu25 := Try.underlying25
  refine E.enter (N := 8) Try.func23 rfl Try.ntmps23 (args := [hv V m]) (by simp) ?_
  have L := Below.refl w.heap.size w
  refine E.CG.seq ?_
  refine E.CG.list ?_
  refine E.GL.st rfl rfl rfl (E.ST.box rfl rfl fun g1 w1 e1 b1 l1 => ?_)
  have h1_L : w.heap.size ≤ g1 := by rw [e1]; exact L.size
  replace L := below_step L l1
  refine E.GL.run rfl rfl rfl (E.Runs.assign rfl rfl) ?_
  refine E.GL.run rfl rfl rfl (E.Runs.assign rfl rfl) ?_
  refine E.GL.done ?_
  refine E.QG.code ?_
  refine E.CG.seq ?_
  refine E.CG.list ?_
  refine E.GL.run rfl rfl rfl (E.Runs.loads (cs := [.slice m.A V.ps.length m.a, .slice m.B V.qs.length m.b, .slice m.C V.ts.length m.c, .slice m.D V.cs.length m.d]) rfl rfl hu25 rfl info25s (blk_cells b1)) ?_
  have L0 := L
  refine E.GL.st rfl rfl rfl (E.ST.call rfl ent53 (E.evc rfl (E.evc rfl E.evn)) ((tills_sound V m _ (hV.below L) hs).mono ?_))
  rintro e w5 ⟨v, rfl, R, l5⟩
  refine ⟨_, rfl, ?_⟩
  replace b1 := blk_below b1 l5
  replace L := below_step L l5
  refine E.GL.run rfl rfl rfl (E.Runs.extract rfl rfl rfl) ?_
  refine E.GL.run rfl rfl rfl (E.Runs.extract rfl rfl rfl) ?_
  refine E.GL.run rfl rfl rfl (E.Runs.assign rfl rfl) ?_
  refine E.GL.run rfl rfl rfl (E.Runs.assign rfl rfl) ?_
  refine E.GL.done ?_
  refine E.QG.code ?_
  refine E.CG.ret ?_
  exact E.QG.result2 rfl rfl rfl ⟨_, rfl, Kd.R_lower R L0.size, L⟩

end Go.Proofs.Ytiplichdhcmjdaa.T
