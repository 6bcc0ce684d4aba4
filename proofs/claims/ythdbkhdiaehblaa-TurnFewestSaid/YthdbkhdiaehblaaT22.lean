/- What happens: order, bounds, and what is easier. -/
import Derived.Test.YthdbkhdiaehblaaT21
namespace Go.Proofs.Ythdbkhdiaehblaa.T
open Go.RowKit Go.Proofs.YthdbkhdiaehblaaW.PrintWords Go.Proofs.YthdbkhdiaehblaaW.PrintMore
open Go.Proofs.Ythdbkhdiaehblaa.P
set_option linter.unusedVariables false
def All2 {α β : Type} (R : α → β → Prop) : List α → List β → Prop
  | [], [] => True
  | x :: xs, y :: ys => R x y ∧ All2 R xs ys
  | _, _ => False
theorem All2.get {α β : Type} {R : α → β → Prop} : ∀ {xs : List α} {ys : List β}, All2 R xs ys → ∀ {i : Nat} {x : α} {y : β}, xs[i]? = some x → ys[i]? = some y → R x y
  | [], [], _, i, x, y, hx, _ => by simp at hx
  | a :: xs, b :: ys, h, 0, x, y, hx, hy => by
    obtain rfl : a = x := by simpa using hx
    obtain rfl : b = y := by simpa using hy
    exact h.1
  | a :: xs, b :: ys, h, i + 1, x, y, hx, hy => h.2.get (i := i) (by simpa using hx) (by simpa using hy)
theorem all2_map {α β γ : Type} {R : α → β → Prop} (f : γ → α) (g : γ → β) : ∀ (l : List γ), (∀ s ∈ l, R (f s) (g s)) → All2 R (l.map f) (l.map g)
  | [], _ => trivial
  | s :: l, h => ⟨h s List.mem_cons_self, all2_map f g l (fun x hx => h x (List.mem_cons_of_mem _ hx))⟩
theorem lastR_le {f : S36 → Int} {q n : Int} : ∀ (l : List (S36 × Tm)) (a : Int), (∀ y ∈ l, y.2.ready ≤ n) → a ≤ n → lastR f q l a ≤ n
  | [], a, _, ha => ha
  | y :: r, a, h, ha => lastR_le r _ (fun z hz => h z (List.mem_cons_of_mem _ hz)) (by have := h y List.mem_cons_self; split <;> omega)
/-- How two tellings are compared. -/
structure AccLe (acc acc' : List (S36 × Tm)) : Prop where
  sc : ∀ q, lastR (·.f0) q acc (-1) ≤ lastR (·.f0) q acc' (-1)
  tm : ∀ q, lastR (·.f4) q acc (-1) ≤ lastR (·.f4) q acc' (-1)
  no : ∀ q, lastR (·.f4) q acc (-1) = -1 ↔ lastR (·.f4) q acc' (-1) = -1
theorem AccLe.nil : AccLe [] [] := ⟨fun _ => Int.le_refl _, fun _ => Int.le_refl _, fun _ => Iff.rfl⟩
theorem AccLe.snoc {acc acc' : List (S36 × Tm)} (h : AccLe acc acc') {s s' : S36} {t t' : Tm} (e0 : s.f0 = s'.f0) (e4 : s.f4 = s'.f4) (k : t.ready ≤ t'.ready) (n : 0 ≤ t.ready) : AccLe (acc ++ [(s, t)]) (acc' ++ [(s', t')]) := by
  refine ⟨fun q => ?_, fun q => ?_, fun q => ?_⟩ <;> rw [lastR_snoc, lastR_snoc]
  · simp only [e0]
    split
    · exact k
    · exact h.sc q
  · simp only [e4]
    split
    · exact k
    · exact h.tm q
  · simp only [e4]
    split
    · omega
    · exact h.no q
theorem oneT_facts {r : Rt} {acc : List (S36 × Tm)} {x : It} (R : RtOk r) (X : ItOk x) : PlFacts r (lastR (·.f0) x.s.f0 acc (-1)) (lastR (·.f4) x.s.f4 acc (-1)) x (oneT r acc x) := plT_facts R X
theorem oneT_ready {r : Rt} {acc : List (S36 × Tm)} {x : It} (R : RtOk r) (X : ItOk x) : 0 ≤ (oneT r acc x).ready := by
  have F := oneT_facts (acc := acc) R X
  have := F.e0; have := F.es; have := F.ss; have := F.se; have := F.er; have := X.u0; have := X.c0
  omega
theorem oneT_mono {r q : Rt} {acc acc' : List (S36 × Tm)} {x y : It} (Q : RtOk q) (X : ItOk x) (h : RtLe r q) (k : ItLe x y) (H : AccLe acc acc') : PlLe (oneT r acc x) (oneT q acc' y) := by
  refine plT_mono Q X h k ?_ ?_ ?_
  · rw [k.f0]; exact H.sc _
  · rw [k.f4]; exact H.tm _
  · rw [k.f4]; exact H.no _
/-- What is easier is never later. -/
theorem runT_mono {r q : Rt} (R : RtOk r) (Q : RtOk q) (h : RtLe r q) : ∀ (xs ys : List It) (acc acc' : List (S36 × Tm)), All2 ItLe xs ys → (∀ x ∈ xs, ItOk x) → AccLe acc acc' → All2 PlLe (runT r acc xs) (runT q acc' ys)
  | [], [], _, _, _, _, _ => trivial
  | x :: xs, y :: ys, acc, acc', k, X, H => by
    have m := oneT_mono Q (X x List.mem_cons_self) h k.1 H
    exact ⟨m, runT_mono R Q h xs ys _ _ k.2 (fun z hz => X z (List.mem_cons_of_mem _ hz)) (H.snoc k.1.f0 k.1.f4 m.r (oneT_ready R (X x List.mem_cons_self)))⟩
/-- Those before, in order: none was ready later than the last of its screen, or of its team. -/
structure Ordered (acc : List (S36 × Tm)) : Prop where
  sc : ∀ y ∈ acc, y.2.ready ≤ lastR (·.f0) y.1.f0 acc (-1)
  tm : ∀ y ∈ acc, y.2.ready ≤ lastR (·.f4) y.1.f4 acc (-1)
  n : ∀ y ∈ acc, 0 ≤ y.2.ready
theorem Ordered.nil : Ordered [] := ⟨fun y h => by simp at h, fun y h => by simp at h, fun y h => by simp at h⟩
theorem Ordered.snoc {r : Rt} {acc : List (S36 × Tm)} {x : It} (R : RtOk r) (X : ItOk x) (H : Ordered acc) : Ordered (acc ++ [(x.s, oneT r acc x)]) := by
  have F := oneT_facts (acc := acc) R X
  have a1 := F.ec; have a2 := F.es; have a3 := F.ss; have a4 := F.se; have a5 := F.er; have a6 := F.dr; have a7 := X.u0; have a8 := X.c0; have a9 := R.w0
  refine ⟨fun y hy => ?_, fun y hy => ?_, fun y hy => ?_⟩
  · rw [lastR_snoc]
    rcases List.mem_append.mp hy with h | h
    · have hs := H.sc y h
      simp only
      split
      · rename_i he
        rw [← he] at hs
        omega
      · exact hs
    · rw [List.mem_singleton] at h
      subst h
      simp
  · rw [lastR_snoc]
    rcases List.mem_append.mp hy with h | h
    · have hs := H.tm y h
      have hn := H.n y h
      simp only
      split
      · rename_i he
        rw [← he] at hs
        have := a6 (by omega)
        omega
      · exact hs
    · rw [List.mem_singleton] at h
      subst h
      simp
  · rcases List.mem_append.mp hy with h | h
    · exact H.n y h
    · rw [List.mem_singleton] at h
      subst h
      exact oneT_ready R X
theorem runP_ordered {r : Rt} (R : RtOk r) : ∀ (xs : List It) (acc : List (S36 × Tm)), (∀ x ∈ xs, ItOk x) → Ordered acc → Ordered (runP r acc xs)
  | [], _, _, H => H
  | x :: xs, acc, X, H => runP_ordered R xs _ (fun z hz => X z (List.mem_cons_of_mem _ hz)) (H.snoc R (X x List.mem_cons_self))
theorem oneT_le {r : Rt} {acc : List (S36 × Tm)} {x : It} {n : Int} (R : RtOk r) (X : ItOk x) (h : ∀ y ∈ acc, y.2.ready ≤ n) (hn : 10000 ≤ n) : (oneT r acc x).ready ≤ n + 6000 :=
  plT_le R X (lastR_le acc _ h (by omega)) (lastR_le acc _ h (by omega)) hn
theorem runP_le {r : Rt} (R : RtOk r) : ∀ (xs : List It) (acc : List (S36 × Tm)) (n : Int), (∀ x ∈ xs, ItOk x) → (∀ y ∈ acc, y.2.ready ≤ n) → 10000 ≤ n → ∀ y ∈ runP r acc xs, y.2.ready ≤ n + 6000 * xs.length
  | [], _, n, _, H, _ => by simpa [runP] using H
  | x :: xs, acc, n, X, H, hn => by
    have h1 := oneT_le R (X x List.mem_cons_self) H hn
    have h2 := runP_le R xs (acc ++ [(x.s, oneT r acc x)]) (n + 6000) (fun z hz => X z (List.mem_cons_of_mem _ hz)) (fun y hy => by
      rcases List.mem_append.mp hy with h | h
      · have := H y h; omega
      · rw [List.mem_singleton] at h
        subst h
        exact h1) (by omega)
    intro y hy
    have := h2 y hy
    simp only [List.length_cons]
    omega
theorem runT_take (r : Rt) : ∀ (xs : List It) (acc : List (S36 × Tm)) (i : Nat), runT r acc (xs.take i) = (runT r acc xs).take i
  | [], _, i => by simp [runT]
  | x :: xs, acc, 0 => by simp [runT]
  | x :: xs, acc, i + 1 => by simp [runT, runT_take r xs]
/-- What happens in all, from the morning on. -/
def dayT (r : Rt) (xs : List It) : List Tm := runT r [] xs
theorem dayT_length (r : Rt) (xs : List It) : (dayT r xs).length = xs.length := runT_length r xs []
theorem dayT_mem {r : Rt} {xs : List It} {i k : Nat} {x : It} {t : Tm} (hk : k < i) (hx : xs[k]? = some x) (ht : (dayT r xs)[k]? = some t) : (x.s, t) ∈ runP r [] (xs.take i) := by
  rw [runP_eq, List.nil_append, runT_take]
  refine List.mem_of_getElem? (i := k) ?_
  rw [List.getElem?_zip_eq_some]
  refine ⟨?_, ?_⟩
  · rw [List.getElem?_map, List.getElem?_take, if_pos hk, hx]
    rfl
  · rw [List.getElem?_take, if_pos hk]
    exact ht
/-- The facts of one slot of a day. -/
structure DayFacts (r : Rt) (xs : List It) (i : Nat) (x : It) (t : Tm) : Prop where
  e0 : 0 ≤ t.enter
  es : t.enter ≤ t.seated
  ss : t.seated ≤ t.start
  bs : x.s.f1 ≤ t.start
  se : t.start + x.run ≤ t.empty
  er : t.empty + x.cl ≤ t.ready
  le : t.ready ≤ 10000 + 6000 * (i + 1)
  sc : ∀ k y u, k < i → xs[k]? = some y → (dayT r xs)[k]? = some u → y.s.f0 = x.s.f0 → u.ready ≤ t.enter
  tm : ∀ k y u, k < i → xs[k]? = some y → (dayT r xs)[k]? = some u → y.s.f4 = x.s.f4 → u.ready + r.wk + x.cl ≤ t.ready
theorem dayT_facts {r : Rt} {xs : List It} (R : RtOk r) (X : ∀ x ∈ xs, ItOk x) {i : Nat} {x : It} {t : Tm} (hx : xs[i]? = some x) (ht : (dayT r xs)[i]? = some t) : DayFacts r xs i x t := by
  have ho := runT_get r xs [] i x hx
  obtain rfl : oneT r (runP r [] (xs.take i)) x = t := by
    rw [show runT r [] xs = dayT r xs from rfl, ht] at ho
    exact (Option.some.inj ho).symm
  have hX : ItOk x := X x (List.mem_of_getElem? hx)
  have hil : i < xs.length := (List.getElem?_eq_some_iff.1 hx).1
  have XT : ∀ y ∈ xs.take i, ItOk y := fun y hy => X y (List.mem_of_mem_take hy)
  have F := oneT_facts (acc := runP r [] (xs.take i)) R hX
  have O := runP_ordered R (xs.take i) [] XT Ordered.nil
  have L := runP_le R (xs.take i) [] 10000 XT (fun y hy => by simp at hy) (by omega)
  have l1 := oneT_le (r := r) R hX L (by omega)
  have hlen : ((xs.take i).length : Int) = i := by rw [List.length_take]; omega
  rw [hlen] at l1
  refine ⟨F.e0, F.es, F.ss, F.bs, F.se, F.er, by omega, fun k y u hk hy hu he => ?_, fun k y u hk hy hu he => ?_⟩
  · have hm := dayT_mem hk hy hu
    have h1 := O.sc _ hm
    simp only [he] at h1
    exact Int.le_trans h1 F.ec
  · have hm := dayT_mem hk hy hu
    have h1 := O.tm _ hm
    have h0 := O.n _ hm
    simp only [he] at h1 h0
    have := F.dr (by omega)
    omega
end Go.Proofs.Ythdbkhdiaehblaa.T
