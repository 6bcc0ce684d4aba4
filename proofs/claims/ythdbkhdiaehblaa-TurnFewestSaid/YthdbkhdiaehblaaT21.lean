/- What happens, in plain words: each slot told by those before it. -/
import Derived.Test.YthdbkhdiaehblaaT15
namespace Go.Proofs.Ythdbkhdiaehblaa.T
open Go.RowKit Go.Proofs.YthdbkhdiaehblaaW.PrintWords Go.Proofs.YthdbkhdiaehblaaW.PrintMore
open Go.Proofs.Ythdbkhdiaehblaa.P
set_option linter.unusedVariables false
/-- A slot, how long its show runs, and how long its cleaning takes. -/
structure It where
  s : S36
  run : Int
  cl : Int
/-- A rate, how long a team walks, and how early people come. -/
structure Rt where
  ra : Int
  wk : Int
  ea : Int
structure ItOk (x : It) : Prop where
  b0 : 0 ≤ x.s.f1
  b1 : x.s.f1 ≤ 10000
  p0 : 0 ≤ x.s.f3
  p1 : x.s.f3 ≤ 1000
  u0 : 0 ≤ x.run
  u1 : x.run ≤ 1000
  c0 : 0 ≤ x.cl
  c1 : x.cl ≤ 1000
structure RtOk (r : Rt) : Prop where
  r0 : 1 ≤ r.ra
  r1 : r.ra ≤ 1000
  w0 : 0 ≤ r.wk
  w1 : r.wk ≤ 1000
  e0 : 0 ≤ r.ea
  e1 : r.ea ≤ 1000
/-- When the last of some was ready, of those alike in something. -/
def lastR (f : S36 → Int) (q : Int) : List (S36 × Tm) → Int → Int
  | [], a => a
  | y :: r, a => lastR f q r (if f y.1 = q then y.2.ready else a)
theorem lastR_snoc (f : S36 → Int) (q : Int) (y : S36 × Tm) : ∀ (l : List (S36 × Tm)) (a : Int), lastR f q (l ++ [y]) a = if f y.1 = q then y.2.ready else lastR f q l a
  | [], _ => rfl
  | x :: r, a => lastR_snoc f q y r _
def plT (r : Rt) (c d : Int) (x : It) : Tm :=
  let enter := mx (max 0 (x.s.f1 - r.ea)) c
  let seated := enter + passesT r.ra x.s.f3
  let start := mx x.s.f1 seated
  let empty := start + x.run + passesT r.ra x.s.f3
  let from_ := if d = -1 then empty else mx empty (d + r.wk)
  ⟨enter, seated, start, empty, from_ + x.cl⟩
def oneT (r : Rt) (acc : List (S36 × Tm)) (x : It) : Tm := plT r (lastR (·.f0) x.s.f0 acc (-1)) (lastR (·.f4) x.s.f4 acc (-1)) x
def runP (r : Rt) : List (S36 × Tm) → List It → List (S36 × Tm)
  | acc, [] => acc
  | acc, x :: xs => runP r (acc ++ [(x.s, oneT r acc x)]) xs
def runT (r : Rt) : List (S36 × Tm) → List It → List Tm
  | _, [] => []
  | acc, x :: xs => oneT r acc x :: runT r (acc ++ [(x.s, oneT r acc x)]) xs
theorem runT_length (r : Rt) : ∀ (xs : List It) (acc : List (S36 × Tm)), (runT r acc xs).length = xs.length
  | [], _ => rfl
  | _ :: xs, acc => congrArg (· + 1) (runT_length r xs _)
theorem runP_eq (r : Rt) : ∀ (xs : List It) (acc : List (S36 × Tm)), runP r acc xs = acc ++ (xs.map (·.s)).zip (runT r acc xs)
  | [], acc => by simp [runP, runT]
  | x :: xs, acc => by
    rw [runP, runP_eq r xs]
    simp [runT]
/-- The slot at a place is told by those before it. -/
theorem runT_get (r : Rt) : ∀ (xs : List It) (acc : List (S36 × Tm)) (i : Nat) (x : It), xs[i]? = some x → (runT r acc xs)[i]? = some (oneT r (runP r acc (xs.take i)) x)
  | [], _, i, x, h => by simp at h
  | y :: xs, acc, 0, x, h => by
    obtain rfl : y = x := by simpa using h
    rfl
  | y :: xs, acc, i + 1, x, h => by
    have := runT_get r xs (acc ++ [(y.s, oneT r acc y)]) i x (by simpa using h)
    simpa [runT, runP] using this
theorem runP_snoc (r : Rt) (x : It) : ∀ (xs : List It) (acc : List (S36 × Tm)), runP r acc (xs ++ [x]) = runP r acc xs ++ [(x.s, oneT r (runP r acc xs) x)]
  | [], _ => rfl
  | y :: xs, acc => by
    show runP r _ (xs ++ [x]) = _
    rw [runP_snoc r x xs]
    rfl
/-- How the two tellings agree. -/
def DayIs (d : Day) (acc : List (S36 × Tm)) : Prop :=
  d.clean.length = 6 ∧ d.done.length = 4 ∧ (∀ q : Int, 0 ≤ q → q < 6 → rd d.clean q = lastR (·.f0) q acc (-1)) ∧ (∀ q : Int, 0 ≤ q → q < 4 → rd d.done q = lastR (·.f4) q acc (-1))
theorem dayIs_morning : DayIs (dayAt 6 4) [] := by
  refine ⟨rfl, rfl, fun q h0 h1 => ?_, fun q h0 h1 => ?_⟩
  · obtain rfl | rfl | rfl | rfl | rfl | rfl : q = 0 ∨ q = 1 ∨ q = 2 ∨ q = 3 ∨ q = 4 ∨ q = 5 := by omega
    all_goals rfl
  · obtain rfl | rfl | rfl | rfl : q = 0 ∨ q = 1 ∨ q = 2 ∨ q = 3 := by omega
    all_goals rfl
theorem rd_set {l : List Int} {i q v : Int} (h0 : 0 ≤ i) (h1 : i < l.length) (hq : 0 ≤ q) : rd (l.set i.toNat v) q = if i = q then v else rd l q := by
  unfold rd
  rw [List.getD_eq_getElem?_getD, List.getElem?_set, List.getD_eq_getElem?_getD]
  by_cases h : i = q
  · subst h
    rw [if_pos rfl, if_pos (by omega), if_pos rfl]
    rfl
  · rw [if_neg (by omega), if_neg h]
def itOf (p : Pc) (s : S36) : It := ⟨s, p.ru s, p.cl⟩
def rtOf (p : Pc) (H : Hs) : Rt := ⟨p.ra, H.walk, H.early⟩
theorem playT_is {p : Pc} {H : Hs} {d : Day} {acc : List (S36 × Tm)} {s : S36} (S : SFits p s) (h : DayIs d acc) : playT p H d s s.f4 = oneT (rtOf p H) acc (itOf p s) := by
  unfold playT oneT plT itOf rtOf
  simp only
  rw [h.2.2.1 s.f0 S.s0 S.s1, h.2.2.2 s.f4 S.t0 S.t1]
theorem playD_is {p : Pc} {H : Hs} {d : Day} {acc : List (S36 × Tm)} {s : S36} (S : SFits p s) (h : DayIs d acc) : DayIs (playD p H d s s.f4) (acc ++ [(s, oneT (rtOf p H) acc (itOf p s))]) := by
  obtain ⟨a1, a2, a3, a4⟩ := h
  refine ⟨by simp [playD, a1], by simp [playD, a2], fun q h0 h1 => ?_, fun q h0 h1 => ?_⟩
  · show rd (d.clean.set s.f0.toNat _) q = _
    rw [rd_set S.s0 (by rw [a1]; exact S.s1) h0, lastR_snoc, playT_is S ⟨a1, a2, a3, a4⟩, a3 q h0 h1]
  · show rd (d.done.set s.f4.toNat _) q = _
    rw [rd_set S.t0 (by rw [a2]; exact S.t1) h0, lastR_snoc, playT_is S ⟨a1, a2, a3, a4⟩, a4 q h0 h1]
theorem allT_is {p : Pc} {H : Hs} : ∀ (l : List S36) (d : Day) (acc : List (S36 × Tm)), (∀ s ∈ l, SFits p s) → DayIs d acc → allT p H d l = runT (rtOf p H) acc (l.map (itOf p))
  | [], _, _, _, _ => rfl
  | s :: l, d, acc, hS, h => by
    rw [allT, playT_is (hS s List.mem_cons_self) h, allT_is l _ _ (fun x hx => hS x (List.mem_cons_of_mem _ hx)) (playD_is (hS s List.mem_cons_self) h)]
    rfl
/-! Facts of one slot. -/
theorem passes_nonneg {ra c : Int} (h : 1 ≤ ra) (hc : 0 ≤ c) : 0 ≤ passesT ra c := by unfold passesT; exact Int.ediv_nonneg (by omega) (by omega)
theorem passes_le {ra c : Int} (h : 1 ≤ ra) (h1 : ra ≤ 1000) (hc : 0 ≤ c) (hc1 : c ≤ 1000) : passesT ra c ≤ 2000 := by unfold passesT; exact Int.le_trans (Int.ediv_le_self _ (by omega)) (by omega)
/-- More pass in a minute: they need no longer. -/
theorem passes_anti {a b c : Int} (ha : 1 ≤ a) (hab : a ≤ b) (hc : 0 ≤ c) : passesT b c ≤ passesT a c := by
  unfold passesT
  have h1 : c + b - 1 = (c - 1) + b := by omega
  have h2 : c + a - 1 = (c - 1) + a := by omega
  rw [h1, h2, Int.add_ediv_of_dvd_right (Int.dvd_refl b), Int.add_ediv_of_dvd_right (Int.dvd_refl a), Int.ediv_self (by omega), Int.ediv_self (by omega)]
  have : (c - 1) / b ≤ (c - 1) / a := by
    rcases Int.lt_or_le (c - 1) 0 with h | h
    · have hc0 : c - 1 = -1 := by omega
      rw [hc0]
      have e1 : (-1 : Int) / b = -1 := by
        have := Int.ediv_emod_unique (a := -1) (b := b) (r := b - 1) (q := -1) (by omega)
        exact (this.mpr ⟨by omega, by omega, by omega⟩).1
      have e2 : (-1 : Int) / a = -1 := by
        have := Int.ediv_emod_unique (a := -1) (b := a) (r := a - 1) (q := -1) (by omega)
        exact (this.mpr ⟨by omega, by omega, by omega⟩).1
      rw [e1, e2]
      exact Int.le_refl _
    · rw [Int.le_ediv_iff_mul_le (by omega)]
      have h3 : (c - 1) / b * b ≤ c - 1 := Int.ediv_mul_le _ (by omega)
      have h4 : 0 ≤ (c - 1) / b := Int.ediv_nonneg h (by omega)
      have h5 : (c - 1) / b * a ≤ (c - 1) / b * b := Int.mul_le_mul_of_nonneg_left hab h4
      omega
  omega
theorem mx_l (a b : Int) : a ≤ mx a b := by unfold mx; split <;> omega
theorem mx_r (a b : Int) : b ≤ mx a b := by unfold mx; split <;> omega
theorem mx_le {a b c : Int} (h : a ≤ c) (k : b ≤ c) : mx a b ≤ c := by unfold mx; split <;> omega
structure PlFacts (r : Rt) (c d : Int) (x : It) (t : Tm) : Prop where
  e0 : 0 ≤ t.enter
  ec : c ≤ t.enter
  es : t.enter ≤ t.seated
  ss : t.seated ≤ t.start
  bs : x.s.f1 ≤ t.start
  se : t.start + x.run ≤ t.empty
  er : t.empty + x.cl ≤ t.ready
  dr : d ≠ -1 → d + r.wk + x.cl ≤ t.ready
theorem plT_facts {r : Rt} {c d : Int} {x : It} (R : RtOk r) (X : ItOk x) : PlFacts r c d x (plT r c d x) := by
  have h0 := passes_nonneg (c := x.s.f3) R.r0 X.p0
  have m1 := mx_l (max 0 (x.s.f1 - r.ea)) c
  have m2 := mx_r (max 0 (x.s.f1 - r.ea)) c
  have m3 := mx_l x.s.f1 (mx (max 0 (x.s.f1 - r.ea)) c + passesT r.ra x.s.f3)
  have m4 := mx_r x.s.f1 (mx (max 0 (x.s.f1 - r.ea)) c + passesT r.ra x.s.f3)
  have m5 := mx_l (mx x.s.f1 (mx (max 0 (x.s.f1 - r.ea)) c + passesT r.ra x.s.f3) + x.run + passesT r.ra x.s.f3) (d + r.wk)
  have m6 := mx_r (mx x.s.f1 (mx (max 0 (x.s.f1 - r.ea)) c + passesT r.ra x.s.f3) + x.run + passesT r.ra x.s.f3) (d + r.wk)
  refine ⟨?_, ?_, ?_, ?_, ?_, ?_, ?_, fun hd => ?_⟩ <;> unfold plT <;> simp only
  · omega
  · omega
  · omega
  · omega
  · omega
  · omega
  · split <;> omega
  · rw [if_neg hd]; omega
theorem plT_le {r : Rt} {c d n : Int} {x : It} (R : RtOk r) (X : ItOk x) (hc : c ≤ n) (hd : d ≤ n) (hn : 10000 ≤ n) : (plT r c d x).ready ≤ n + 6000 := by
  have h0 := passes_nonneg (c := x.s.f3) R.r0 X.p0
  have h1 := passes_le (c := x.s.f3) R.r0 R.r1 X.p0 X.p1
  have m1 : mx (max 0 (x.s.f1 - r.ea)) c ≤ n := mx_le (by have := X.b1; have := R.e0; omega) hc
  have m2 : mx x.s.f1 (mx (max 0 (x.s.f1 - r.ea)) c + passesT r.ra x.s.f3) ≤ n + 2000 := mx_le (by have := X.b1; omega) (by omega)
  have m3 : mx (mx x.s.f1 (mx (max 0 (x.s.f1 - r.ea)) c + passesT r.ra x.s.f3) + x.run + passesT r.ra x.s.f3) (d + r.wk) ≤ n + 5000 := mx_le (by have := X.u1; omega) (by have := R.w1; omega)
  have := X.c1
  have := X.u1
  unfold plT
  simp only
  split <;> omega
structure PlLe (t u : Tm) : Prop where
  e : t.enter ≤ u.enter
  d : t.seated ≤ u.seated
  s : t.start ≤ u.start
  m : t.empty ≤ u.empty
  r : t.ready ≤ u.ready
/-- What is easier for one slot. -/
structure ItLe (x y : It) : Prop where
  f0 : x.s.f0 = y.s.f0
  f1 : x.s.f1 = y.s.f1
  f3 : x.s.f3 = y.s.f3
  f4 : x.s.f4 = y.s.f4
  ru : x.run ≤ y.run
  cl : x.cl ≤ y.cl
structure RtLe (r q : Rt) : Prop where
  ra : q.ra ≤ r.ra
  wk : r.wk ≤ q.wk
  ea : r.ea = q.ea
theorem mx_mono {a b c d : Int} (h : a ≤ c) (k : b ≤ d) : mx a b ≤ mx c d := by unfold mx; split <;> split <;> omega
theorem plT_mono {r q : Rt} {c d c' d' : Int} {x y : It} (Q : RtOk q) (X : ItOk x) (h : RtLe r q) (k : ItLe x y) (hc : c ≤ c') (hd : d ≤ d') (hn : d = -1 ↔ d' = -1) : PlLe (plT r c d x) (plT q c' d' y) := by
  have h0 := passes_anti (c := x.s.f3) Q.r0 h.ra X.p0
  have hw := h.wk
  have hu := k.ru
  have hl := k.cl
  have e1 : mx (max 0 (x.s.f1 - r.ea)) c ≤ mx (max 0 (y.s.f1 - q.ea)) c' := mx_mono (by rw [k.f1, h.ea]; exact Int.le_refl _) hc
  rw [k.f3] at h0
  have e2 : mx (max 0 (x.s.f1 - r.ea)) c + passesT r.ra x.s.f3 ≤ mx (max 0 (y.s.f1 - q.ea)) c' + passesT q.ra y.s.f3 := by rw [k.f3]; omega
  have e3 : mx x.s.f1 (mx (max 0 (x.s.f1 - r.ea)) c + passesT r.ra x.s.f3) ≤ mx y.s.f1 (mx (max 0 (y.s.f1 - q.ea)) c' + passesT q.ra y.s.f3) := mx_mono (by rw [k.f1]; exact Int.le_refl _) e2
  have e4 : mx x.s.f1 (mx (max 0 (x.s.f1 - r.ea)) c + passesT r.ra x.s.f3) + x.run + passesT r.ra x.s.f3 ≤ mx y.s.f1 (mx (max 0 (y.s.f1 - q.ea)) c' + passesT q.ra y.s.f3) + y.run + passesT q.ra y.s.f3 := by
    have : passesT r.ra x.s.f3 ≤ passesT q.ra y.s.f3 := by rw [k.f3]; exact h0
    omega
  refine ⟨e1, e2, e3, e4, ?_⟩
  unfold plT
  simp only
  by_cases hd1 : d = -1
  · rw [if_pos hd1, if_pos (hn.mp hd1)]
    omega
  · rw [if_neg hd1, if_neg (fun hh => hd1 (hn.mpr hh))]
    have := mx_mono e4 (show d + r.wk ≤ d' + q.wk by omega)
    omega
end Go.Proofs.Ythdbkhdiaehblaa.T
