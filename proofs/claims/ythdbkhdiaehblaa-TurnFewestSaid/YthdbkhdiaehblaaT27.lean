/- The reference's telling of what happens (Run), in plain words: it answers as runT does. -/
import Derived.Test.YthdbkhdiaehblaaT26
namespace Go.Proofs.Ythdbkhdiaehblaa.T
open Go.RowKit Go.Proofs.YthdbkhdiaehblaaW.PrintWords Go.Proofs.YthdbkhdiaehblaaW.PrintMore
open Go.Proofs.Ythdbkhdiaehblaa.P
set_option linter.unusedVariables false
def refE (s : S36) : List (S36 × Tm) → Int → Int
  | [], e => e
  | y :: r, e => refE s r (if y.1.f0 = s.f0 then mx e y.2.ready else e)
def refD (wk : Int) (s : S36) : List (S36 × Tm) → Int → Int
  | [], d => d
  | y :: r, d => refD wk s r (if y.1.f4 = s.f4 then y.2.ready + wk else d)
theorem refE_snoc (s : S36) (y : S36 × Tm) : ∀ (l : List (S36 × Tm)) (e : Int), refE s (l ++ [y]) e = if y.1.f0 = s.f0 then mx (refE s l e) y.2.ready else refE s l e
  | [], _ => rfl
  | x :: r, e => refE_snoc s y r _
theorem refD_snoc (wk : Int) (s : S36) (y : S36 × Tm) : ∀ (l : List (S36 × Tm)) (d : Int), refD wk s (l ++ [y]) d = if y.1.f4 = s.f4 then y.2.ready + wk else refD wk s l d
  | [], _ => rfl
  | x :: r, e => refD_snoc wk s y r _
theorem refE_ge (s : S36) : ∀ (l : List (S36 × Tm)) (e : Int), e ≤ refE s l e
  | [], e => Int.le_refl _
  | y :: r, e => by
    refine Int.le_trans ?_ (refE_ge s r _)
    split
    · exact mx_l _ _
    · exact Int.le_refl _
theorem refE_mem (s : S36) : ∀ (l : List (S36 × Tm)) (e : Int) (y : S36 × Tm), y ∈ l → y.1.f0 = s.f0 → y.2.ready ≤ refE s l e
  | [], e, y, h, _ => by simp at h
  | z :: r, e, y, h, hy => by
    rcases List.mem_cons.mp h with rfl | h
    · unfold refE
      rw [if_pos hy]
      exact Int.le_trans (mx_r e y.2.ready) (refE_ge s r _)
    · exact refE_mem s r _ y h hy
theorem refE_le (s : S36) (M : Int) : ∀ (l : List (S36 × Tm)) (e : Int), (∀ y ∈ l, y.1.f0 = s.f0 → y.2.ready ≤ M) → e ≤ M → refE s l e ≤ M
  | [], e, _, h => h
  | z :: r, e, h, he => by
    refine refE_le s M r _ (fun y hy => h y (List.mem_cons_of_mem _ hy)) ?_
    split
    · exact mx_le he (h z List.mem_cons_self (by assumption))
    · exact he
theorem lastR_or (f : S36 → Int) (q : Int) : ∀ (l : List (S36 × Tm)) (a : Int), lastR f q l a = a ∨ ∃ y ∈ l, f y.1 = q ∧ lastR f q l a = y.2.ready
  | [], a => .inl rfl
  | z :: r, a => by
    unfold lastR
    rcases lastR_or f q r (if f z.1 = q then z.2.ready else a) with h | ⟨y, hy, h1, h2⟩
    · by_cases hz : f z.1 = q
      · rw [if_pos hz] at h ⊢
        exact .inr ⟨z, List.mem_cons_self, hz, h⟩
      · rw [if_neg hz] at h ⊢
        exact .inl h
    · exact .inr ⟨y, List.mem_cons_of_mem _ hy, h1, h2⟩
theorem refE_is {acc : List (S36 × Tm)} (H : Ordered acc) (s : S36) {e : Int} (he : 0 ≤ e) : refE s acc e = mx e (lastR (·.f0) s.f0 acc (-1)) := by
  refine Int.le_antisymm ?_ ?_
  · refine refE_le s _ acc e (fun y hy hs => ?_) (mx_l _ _)
    have := H.sc y hy
    rw [hs] at this
    exact Int.le_trans this (mx_r _ _)
  · refine mx_le (refE_ge s acc e) ?_
    rcases lastR_or (·.f0) s.f0 acc (-1) with h | ⟨y, hy, h1, h2⟩
    · rw [h]
      have := refE_ge s acc e
      omega
    · rw [h2]
      exact refE_mem s acc e y hy h1
theorem refD_is (wk : Int) (s : S36) (d0 : Int) : ∀ (l : List (S36 × Tm)) (a d : Int), (∀ y ∈ l, 0 ≤ y.2.ready) → d = (if a = -1 then d0 else a + wk) → refD wk s l d = if lastR (·.f4) s.f4 l a = -1 then d0 else lastR (·.f4) s.f4 l a + wk
  | [], a, d, _, h => h
  | y :: r, a, d, hn, h => by
    unfold refD lastR
    refine refD_is wk s d0 r _ _ (fun z hz => hn z (List.mem_cons_of_mem _ hz)) ?_
    have := hn y List.mem_cons_self
    split
    · rw [if_neg (by omega)]
    · exact h
def oneR (r : Rt) (acc : List (S36 × Tm)) (x : It) : Tm :=
  let enter := refE x.s acc (mx 0 (x.s.f1 - r.ea))
  let seated := enter + passesT r.ra x.s.f3
  let start := mx x.s.f1 seated
  let empty := start + x.run + passesT r.ra x.s.f3
  ⟨enter, seated, start, empty, mx empty (refD r.wk x.s acc 0) + x.cl⟩
theorem mx_max (a : Int) : mx 0 a = max 0 a := by unfold mx; split <;> omega
theorem oneR_is {r : Rt} {acc : List (S36 × Tm)} {x : It} (R : RtOk r) (X : ItOk x) (H : Ordered acc) : oneR r acc x = oneT r acc x := by
  have F := oneT_facts (acc := acc) R X
  have e0 : refE x.s acc (mx 0 (x.s.f1 - r.ea)) = (oneT r acc x).enter := by
    rw [refE_is H x.s (mx_l _ _), mx_max]
    rfl
  have d0 := refD_is r.wk x.s 0 acc (-1) 0 H.n (by simp)
  have em : 0 ≤ (oneT r acc x).empty := by
    have := F.e0; have := F.es; have := F.ss; have := F.se; have := X.u0
    omega
  have r0 : mx (oneT r acc x).empty (refD r.wk x.s acc 0) + x.cl = (oneT r acc x).ready := by
    rw [d0]
    unfold oneT plT at em ⊢
    simp only at em ⊢
    split
    · unfold mx at em ⊢
      split <;> omega
    · rfl
  have key : oneR r acc x = ⟨(oneT r acc x).enter, (oneT r acc x).seated, (oneT r acc x).start, (oneT r acc x).empty, (oneT r acc x).ready⟩ := by
    rw [← r0]
    unfold oneR
    rw [e0]
    rfl
  exact key
/-- The items of a case. -/
def items : List S36 → List Int → List Int → List It
  | s :: l, r :: rs, c :: cs => ⟨s, r, c⟩ :: items l rs cs
  | _, _, _ => []
theorem items_length : ∀ (l : List S36) (rs cs : List Int), rs.length = l.length → cs.length = l.length → (items l rs cs).length = l.length
  | [], _, _, _, _ => rfl
  | s :: l, [], _, h, _ => by simp at h
  | s :: l, r :: rs, [], _, h => by simp at h
  | s :: l, r :: rs, c :: cs, h, k => congrArg (· + 1) (items_length l rs cs (by simpa using h) (by simpa using k))
theorem items_get : ∀ (l : List S36) (rs cs : List Int) (i : Nat) (s : S36) (r c : Int), l[i]? = some s → rs[i]? = some r → cs[i]? = some c → (items l rs cs)[i]? = some ⟨s, r, c⟩
  | [], _, _, i, s, r, c, h, _, _ => by simp at h
  | a :: l, [], _, i, s, r, c, _, h, _ => by simp at h
  | a :: l, b :: rs, [], i, s, r, c, _, _, h => by simp at h
  | a :: l, b :: rs, d :: cs, 0, s, r, c, h1, h2, h3 => by
    simp at h1 h2 h3
    subst h1 h2 h3
    rfl
  | a :: l, b :: rs, d :: cs, i + 1, s, r, c, h1, h2, h3 => items_get l rs cs i s r c (by simpa using h1) (by simpa using h2) (by simpa using h3)
theorem items_mem : ∀ (l : List S36) (rs cs : List Int) (x : It), x ∈ items l rs cs → ∃ i : Nat, l[i]? = some x.s ∧ rs[i]? = some x.run ∧ cs[i]? = some x.cl
  | [], _, _, x, h => by simp [items] at h
  | a :: l, [], _, x, h => by simp [items] at h
  | a :: l, b :: rs, [], x, h => by simp [items] at h
  | a :: l, b :: rs, d :: cs, x, h => by
    rcases List.mem_cons.mp h with rfl | h
    · exact ⟨0, rfl, rfl, rfl⟩
    · obtain ⟨i, h1, h2, h3⟩ := items_mem l rs cs x h
      exact ⟨i + 1, by simpa using h1, by simpa using h2, by simpa using h3⟩
theorem items_map (f g : S36 → Int) : ∀ l : List S36, items l (l.map f) (l.map g) = l.map (fun s => ⟨s, f s, g s⟩)
  | [] => rfl
  | s :: l => congrArg (List.cons _) (items_map f g l)
/-- All that is told before a place. -/
abbrev accT (r : Rt) (xs : List It) (i : Nat) : List (S36 × Tm) := runP r [] (xs.take i)
theorem accT_length (r : Rt) (xs : List It) (i : Nat) (h : i ≤ xs.length) : (accT r xs i).length = i := by
  unfold accT
  rw [runP_eq]
  simp [runT_length]
  omega
theorem accT_get {r : Rt} {xs : List It} {i k : Nat} {x : It} {t : Tm} (hk : k < i) (hx : xs[k]? = some x) (ht : (dayT r xs)[k]? = some t) : (accT r xs i)[k]? = some (x.s, t) := by
  unfold accT
  rw [runP_eq, List.nil_append, runT_take, List.getElem?_zip_eq_some]
  refine ⟨?_, ?_⟩
  · rw [List.getElem?_map, List.getElem?_take, if_pos hk, hx]
    rfl
  · rw [List.getElem?_take, if_pos hk]
    exact ht
theorem refE_take {r : Rt} {xs : List It} {i k : Nat} {y : It} {u : Tm} (s : S36) (e : Int) (hk : k < i) (hx : xs[k]? = some y) (ht : (dayT r xs)[k]? = some u) :
    refE s ((accT r xs i).take (k + 1)) e = if y.s.f0 = s.f0 then mx (refE s ((accT r xs i).take k) e) u.ready else refE s ((accT r xs i).take k) e := by
  rw [List.take_add_one, accT_get hk hx ht, Option.toList_some, refE_snoc]
theorem refD_take {r : Rt} {xs : List It} {i k : Nat} {y : It} {u : Tm} (wk : Int) (s : S36) (d : Int) (hk : k < i) (hx : xs[k]? = some y) (ht : (dayT r xs)[k]? = some u) :
    refD wk s ((accT r xs i).take (k + 1)) d = if y.s.f4 = s.f4 then u.ready + wk else refD wk s ((accT r xs i).take k) d := by
  rw [List.take_add_one, accT_get hk hx ht, Option.toList_some, refD_snoc]
/-- One slot of a case: what the reference reckons, step by step. -/
structure RunFacts (r : Rt) (xs : List It) (i : Nat) (x : It) (t : Tm) : Prop where
  e : refE x.s (accT r xs i) (mx 0 (x.s.f1 - r.ea)) = t.enter
  d : mx t.empty (refD r.wk x.s (accT r xs i) 0) + x.cl = t.ready
  sd : t.enter + passesT r.ra x.s.f3 = t.seated
  st : mx x.s.f1 t.seated = t.start
  em : t.start + x.run + passesT r.ra x.s.f3 = t.empty
  p0 : 0 ≤ passesT r.ra x.s.f3
  day : DayFacts r xs i x t
theorem run_facts {r : Rt} {xs : List It} (R : RtOk r) (X : ∀ x ∈ xs, ItOk x) {i : Nat} {x : It} {t : Tm} (hx : xs[i]? = some x) (ht : (dayT r xs)[i]? = some t) : RunFacts r xs i x t := by
  have D := dayT_facts R X hx ht
  have hX : ItOk x := X x (List.mem_of_getElem? hx)
  have ho := runT_get r xs [] i x hx
  rw [show runT r [] xs = dayT r xs from rfl, ht] at ho
  have h1 := (Option.some.inj ho).symm
  have O := runP_ordered R (xs.take i) [] (fun y hy => X y (List.mem_of_mem_take hy)) Ordered.nil
  rw [← oneR_is R hX O] at h1
  subst h1
  exact ⟨rfl, rfl, rfl, rfl, rfl, passes_nonneg R.r0 hX.p0, D⟩
theorem int_at {w : World} {A : Option Addr} {n : Nat} {xs : List Int} (h : Kd.C (Kd.int .i64) w A n xs) {i : Nat} {x : Int} (hi : xs[i]? = some x) : ∃ ad, A = some ad ∧ w.cell? (ad.add (i * 1)) = some (.int .i64 x) := by
  have hil : i < xs.length := (List.getElem?_eq_some_iff.1 hi).1
  have hn := Kd.C_len h
  obtain ⟨ad, e, m⟩ := Kd.at_int h (i : Int) (by omega) (by omega)
  refine ⟨ad, e, ?_⟩
  rw [Int.toNat_natCast] at m
  rw [Nat.mul_one, m]
  unfold rd
  simp [List.getD_eq_getElem?_getD, hi]
end Go.Proofs.Ythdbkhdiaehblaa.T
