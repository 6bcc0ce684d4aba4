/- Other teams for the same slots; who can be late, told slot by slot; teams that are alike; with no program in sight. -/
import Derived.Test.YthdbkhdiaehblaaT35
import Derived.Test.YthdbkhdiaehblaaE8
namespace Go.Proofs.Ythdbkhdiaehblaa.T
open Go.RowKit Go.Proofs.YthdbkhdiaehblaaW.PrintWords Go.Proofs.YthdbkhdiaehblaaW.PrintMore
open Go.Proofs.Ythdbkhdiaehblaa.P
set_option linter.unusedVariables false
set_option linter.unusedSimpArgs false
/-- A slot with another team. -/
abbrev teamS (s : S36) (t : Int) : S36 := ⟨s.f0, s.f1, s.f2, s.f3, t⟩
/-- Slots with other teams, as far as these reach. -/
def withT : List S36 → List Int → List S36
  | [], _ => []
  | s :: l, [] => s :: l
  | s :: l, t :: ts => teamS s t :: withT l ts
theorem withT_nil (l : List S36) : withT l [] = l := by cases l <;> rfl
theorem withT_length : ∀ (l : List S36) (ts : List Int), (withT l ts).length = l.length
  | [], _ => rfl
  | _ :: _, [] => rfl
  | _ :: l, _ :: ts => congrArg (· + 1) (withT_length l ts)
theorem withT_take : ∀ (k : Nat) (l : List S36) (ts : List Int), withT (l.take k) (ts.take k) = (withT l ts).take k
  | 0, l, ts => by simp [withT]
  | k + 1, [], ts => by simp [withT]
  | k + 1, s :: l, [] => by simp [withT]
  | k + 1, s :: l, t :: ts => by simp only [List.take_succ_cons, withT, withT_take k l ts]
theorem withT_at : ∀ (l : List S36) (ts : List Int) (i : Nat), (withT l (ts.take i))[i]? = l[i]?
  | [], _, _ => rfl
  | _ :: _, [], _ => by simp [withT]
  | _ :: _, _ :: _, 0 => rfl
  | _ :: l, _ :: ts, i + 1 => withT_at l ts i
theorem withT_step : ∀ (l : List S36) (ts : List Int) (i : Nat) (s : S36) (t : Int), l[i]? = some s → ts[i]? = some t → (withT l (ts.take i)).set i (teamS s t) = withT l (ts.take (i + 1))
  | [], _, _, _, _, h, _ => by simp at h
  | _ :: _, [], _, _, _, _, h => by simp at h
  | a :: l, b :: ts, 0, s, t, h, k => by
    simp at h k
    subst h k
    simp [withT, withT_nil]
  | a :: l, b :: ts, i + 1, s, t, h, k => by
    have := withT_step l ts i s t (by simpa using h) (by simpa using k)
    simp only [List.take_succ_cons, withT, List.set_cons_succ, this]
theorem withT_get : ∀ (l : List S36) (ts : List Int) (i : Nat) (u : S36), (withT l ts)[i]? = some u → ∃ s, l[i]? = some s ∧ u = teamS s u.f4 ∧ (u.f4 = s.f4 ∧ ts.length ≤ i ∨ ts[i]? = some u.f4)
  | [], _, _, _, h => by simp [withT] at h
  | a :: l, [], i, u, h => ⟨u, h, rfl, .inl ⟨rfl, Nat.zero_le _⟩⟩
  | a :: l, b :: ts, 0, u, h => by
    simp [withT] at h
    subst h
    exact ⟨a, rfl, rfl, .inr rfl⟩
  | a :: l, b :: ts, i + 1, u, h => by
    obtain ⟨s, h1, h2, h3⟩ := withT_get l ts i u h
    exact ⟨s, h1, h2, by simpa using h3⟩
/-- From a day on no show is late. -/
def okT (p : Pc) (H : Hs) : Day → List S36 → Prop
  | _, [] => True
  | d, s :: r => ¬ s.f1 < (playT p H d s s.f4).start ∧ okT p H (playD p H d s s.f4) r
theorem late_ok (p : Pc) (H : Hs) : ∀ (l : List S36) (d : Day) (i : Int), 0 ≤ i → (okT p H d l ∧ (lateT l (allT p H d l) i).1 = -1) ∨ (¬ okT p H d l ∧ i ≤ (lateT l (allT p H d l) i).1)
  | [], _, _, _ => .inl ⟨trivial, rfl⟩
  | s :: l, d, i, hi => by
    show (okT p H d (s :: l) ∧ (if s.f1 < (playT p H d s s.f4).start then (i, (playT p H d s s.f4).start - s.f1) else lateT l (allT p H (playD p H d s s.f4) l) (i + 1)).1 = -1) ∨ (¬ okT p H d (s :: l) ∧ i ≤ (if s.f1 < (playT p H d s s.f4).start then (i, (playT p H d s s.f4).start - s.f1) else lateT l (allT p H (playD p H d s s.f4) l) (i + 1)).1)
    by_cases h : s.f1 < (playT p H d s s.f4).start
    · rw [if_pos h]
      exact .inr ⟨fun k => k.1 h, Int.le_refl _⟩
    · rw [if_neg h]
      rcases late_ok p H l (playD p H d s s.f4) (i + 1) (by omega) with ⟨k1, k2⟩ | ⟨k1, k2⟩
      · exact .inl ⟨⟨h, k1⟩, k2⟩
      · exact .inr ⟨fun k => k1 k.2, by omega⟩
theorem okT_take (p : Pc) (H : Hs) : ∀ (l : List S36) (d : Day) (k : Nat), okT p H d l → okT p H d (l.take k)
  | [], _, k, h => by simpa using h
  | s :: l, d, 0, h => trivial
  | s :: l, d, k + 1, h => ⟨h.1, okT_take p H l _ k h.2⟩
theorem rd_set_eq {l : List Int} {i : Int} (h0 : 0 ≤ i) (h1 : i < l.length) (x : Int) : rd (l.set i.toNat x) i = x := by
  unfold rd
  rw [List.getD_eq_getElem?_getD, List.getElem?_set_self (by omega)]
  rfl
theorem rd_set_ne {l : List Int} {i j : Int} (h0 : 0 ≤ i) (h1 : 0 ≤ j) (hne : i ≠ j) (x : Int) : rd (l.set i.toNat x) j = rd l j := by
  unfold rd
  rw [List.getD_eq_getElem?_getD, List.getElem?_set_ne (by omega), ← List.getD_eq_getElem?_getD]
theorem playT_congr {p : Pc} {H : Hs} {d d' : Day} {s : S36} {t u a b : Int} (hc : d'.clean = d.clean) (hp : p.ru (teamS s a) = p.ru (teamS s b)) (hd : rd d'.done u = rd d.done t) : playT p H d' (teamS s a) u = playT p H d (teamS s b) t := by
  unfold playT
  simp only [hc, hp, hd]
/-- Teams that have finished at the same minutes are alike: named otherwise, as many shows are late. -/
theorem okT_map {p : Pc} {H : Hs} (hp : ∀ s a b, p.ru (teamS s a) = p.ru (teamS s b)) {U : Int → Prop} {f : Int → Int} (hU : ∀ x, U x → 0 ≤ x ∧ x < 4) (hf : ∀ x, U x → 0 ≤ f x ∧ f x < 4) (inj : ∀ x y, U x → U y → f x = f y → x = y) :
    ∀ (l : List S36) (ts : List Int) (d d' : Day), d'.clean = d.clean → d.done.length = 4 → d'.done.length = 4 → (∀ x, U x → rd d'.done (f x) = rd d.done x) → (∀ t ∈ ts, U t) → ts.length = l.length → okT p H d (withT l ts) → okT p H d' (withT l (ts.map f))
  | [], ts, d, d', _, _, _, _, _, _, _ => trivial
  | s :: l, [], _, _, _, _, _, _, _, h, _ => by simp at h
  | s :: l, t :: ts, d, d', hc, h1, h2, hd, hts, hl, hok => by
    have ht := hts t (List.mem_cons_self ..)
    have e1 : playT p H d' (teamS s (f t)) (f t) = playT p H d (teamS s t) t := playT_congr hc (hp s _ _) (hd t ht)
    obtain ⟨k1, k2⟩ := hok
    refine ⟨?_, okT_map hp hU hf inj l ts (playD p H d (teamS s t) t) (playD p H d' (teamS s (f t)) (f t)) ?_ ?_ ?_ ?_ (fun x hx => hts x (List.mem_cons_of_mem _ hx)) (by simpa using hl) k2⟩
    · show ¬ s.f1 < (playT p H d' (teamS s (f t)) (f t)).start
      rw [e1]
      exact k1
    · unfold playD
      rw [e1, hc]
    · unfold playD
      simpa using h1
    · unfold playD
      simpa using h2
    · intro x hx
      unfold playD
      rw [e1]
      have b1 := hU t ht
      have b2 := hf t ht
      have b3 := hU x hx
      have b4 := hf x hx
      by_cases hxt : t = x
      · subst hxt
        rw [rd_set_eq b2.1 (by omega), rd_set_eq b1.1 (by omega)]
      · rw [rd_set_ne b2.1 b4.1 (fun e => hxt (inj _ _ ht hx e)), rd_set_ne b1.1 b3.1 hxt]
        exact hd x hx
/-- A list of teams for slots. -/
def Tms (n : Int) (l : List S36) (ts : List Int) : Prop := ts.length = l.length ∧ ∀ t ∈ ts, 0 ≤ t ∧ t < n
/-- Of two teams that have not cleaned yet one is as good as the other. -/
theorem okT_fresh {p : Pc} {H : Hs} (hp : ∀ s a b, p.ru (teamS s a) = p.ru (teamS s b)) {n : Int} (hn : n ≤ 4) {d : Day} {l : List S36} {a b : Int} {ts : List Int} (hd : d.done.length = 4) (ha : 0 ≤ a ∧ a < n) (hb : 0 ≤ b ∧ b < n) (ka : rd d.done a = -1) (kb : rd d.done b = -1) (T : Tms n l (a :: ts)) (h : okT p H d (withT l (a :: ts))) :
    ∃ us, Tms n l (b :: us) ∧ okT p H d (withT l (b :: us)) := by
  have := okT_map (p := p) (H := H) hp (U := fun x => 0 ≤ x ∧ x < n) (f := fun x => if x = a then b else if x = b then a else x) (fun x hx => by omega) (fun x hx => by split <;> (try split) <;> omega)
    (fun x y hx hy e => by (repeat' split at e) <;> omega) l (a :: ts) d d rfl hd hd (fun x hx => by
      split
      · rename_i e
        rw [e, ka, kb]
      · split
        · rename_i e
          rw [e, ka, kb]
        · rfl) T.2 T.1 h
  simp only [List.map_cons, if_true] at this
  refine ⟨_, ⟨by simpa using T.1, fun t ht => ?_⟩, this⟩
  rcases List.mem_cons.mp ht with rfl | ht
  · exact hb
  · obtain ⟨x, hx, rfl⟩ := List.mem_map.mp ht
    have := T.2 x (List.mem_cons_of_mem _ hx)
    split <;> (try split) <;> omega
theorem pcL_same (H : Hs) (s : S36) (a b : Int) : (pcL H).ru (teamS s a) = (pcL H).ru (teamS s b) := rfl
/-- A house with four teams. -/
abbrev four (H : Hs) : Hs := ⟨4, H.walk, H.early, H.foyer, H.dl, H.dh, H.cl, H.ch⟩
theorem house_four {H : Hs} (h : HouseOk H) : HouseOk (four H) := ⟨⟨show (1 : Int) ≤ 4 by decide, show (4 : Int) ≤ 4 by decide⟩, h.2⟩
theorem slot_four {H : Hs} {s : S36} {t : Int} (h : SlotIn H s) (ht : 0 ≤ t ∧ t < 4) : SlotIn (four H) (teamS s t) := ⟨⟨h.1.1, h.1.2.1, h.1.2.2.1, by show 0 ≤ t ∧ t ≤ 4 - 1; omega⟩, h.2⟩
/-- What is asked of slots whose teams are four at most. -/
def LV (H : Hs) (l : List S36) : Prop := HouseOk (four H) ∧ l.length ≤ 12 ∧ ∀ s ∈ l, SlotIn (four H) s
theorem lv_with {H : Hs} {l : List S36} {ts : List Int} (h : Valid H l) (ht : ∀ t ∈ ts, 0 ≤ t ∧ t < 4) : LV H (withT l ts) := by
  refine ⟨house_four h.1, by rw [withT_length]; exact h.2.1, fun u hu => ?_⟩
  obtain ⟨i, hi⟩ := List.mem_iff_getElem?.mp hu
  obtain ⟨s, h1, h2, h3⟩ := withT_get l ts i u hi
  have hs := valid_slots h s (List.mem_of_getElem? h1)
  rw [h2]
  refine slot_four hs ?_
  rcases h3 with ⟨h3, _⟩ | h3
  · rw [h3]
    have := hs.1.2.2.2
    have := h.1.1
    omega
  · exact ht _ (List.mem_of_getElem? h3)
theorem lv_take {H : Hs} {l : List S36} (h : LV H l) (k : Nat) : LV H (l.take k) := ⟨h.1, by rw [List.length_take]; have := h.2.1; omega, fun s hs => h.2.2 s (List.mem_of_mem_take hs)⟩
theorem allT_four (H : Hs) : ∀ (l : List S36) (d : Day), allT (pcL (four H)) (four H) d l = allT (pcL H) H d l
  | [], _ => rfl
  | s :: l, d => by
    show playT (pcL H) H d s s.f4 :: allT (pcL (four H)) (four H) (playD (pcL H) H d s s.f4) l = _
    rw [allT_four H l]
    rfl
theorem lateDay_four (H : Hs) (l : List S36) : lateDay (four H) l = lateDay H l := allT_four H l _
theorem late_bound4 {H : Hs} {l : List S36} (h : LV H l) {k : Nat} {s : S36} {t : Tm} (hs : l[k]? = some s) (ht : (lateDay H l)[k]? = some t) : (0 ≤ s.f1 ∧ s.f1 ≤ 2000) ∧ s.f1 ≤ t.start ∧ t.start ≤ 100000 := by
  have hL : (l.map (itOf (pcL (four H))))[k]? = some (itOf (pcL (four H)) s) := by rw [List.getElem?_map, hs]; rfl
  have XL : ∀ x ∈ l.map (itOf (pcL (four H))), ItOk x := by
    intro x hx
    obtain ⟨y, hy, rfl⟩ := List.mem_map.mp hx
    exact itL h.1 (h.2.2 y hy)
  rw [← lateDay_four, lateDay, allL_is h.1 h.2.2] at ht
  have F := dayT_facts (rtL h.1) XL hL ht
  have S := h.2.2 s (List.mem_of_getElem? hs)
  have hk : k < l.length := (List.getElem?_eq_some_iff.1 hs).1
  have hn := h.2.1
  have f3 : s.f1 ≤ t.start := F.bs
  have f4 : t.start + s.f2.f1 ≤ t.empty := F.se
  have f5 : t.empty + H.ch ≤ t.ready := F.er
  have f6 := F.le
  obtain ⟨⟨k1, k2, k3, k4⟩, k5⟩ := S
  obtain ⟨h1, h2, h3, h4, h5, h6⟩ := h.1
  simp only at h6
  exact ⟨k5, f3, by omega⟩
theorem run_late4 (H : Hs) (l : List S36) (A1 Ar Ac : Option Addr) (c1 cr cc : Nat) (w : World) (h : LV H l) (hr : Kd.C k36 w A1 l.length l) (hc : l.length ≤ c1) (hR : Kd.C kI w Ar l.length (l.map fun s => s.f2.f1)) (hC : Kd.C kI w Ac l.length (l.map fun _ => H.ch)) :
    Calls Try.prog 24 #[hv H, .slice A1 l.length c1, .agg #[.slice Ar l.length cr, .slice Ac l.length cc, .int .i64 H.dl]] w fun e w' => ∃ A c, e = .returned (.slice A l.length c) ∧ l.length ≤ c ∧ Kd.C kTm w' A l.length (lateDay H l) ∧ Below w.heap.size w w' := by
  have it4 : ∀ x ∈ items l (l.map fun s => s.f2.f1) (l.map fun _ => H.ch), ItOk x := by
    rw [items_L]
    intro x hx
    obtain ⟨y, hy, rfl⟩ := List.mem_map.mp hx
    exact itL h.1 (h.2.2 y hy)
  have e4 : dayT (⟨H.dl, H.walk, H.early⟩ : Rt) (items l (l.map fun s => s.f2.f1) (l.map fun _ => H.ch)) = lateDay H l := by
    rw [items_L, ← lateDay_four, lateDay, allL_is h.1 h.2.2]
    rfl
  have := run_row H l _ _ H.dl A1 Ar Ac c1 cr cc w (by have := h.2.1; omega) (rtL (H := four H) h.1 : RtOk (rtOf (pcL (four H)) (four H))) it4 hr hc hR hC
  rw [e4] at this
  exact this
end Go.Proofs.Ythdbkhdiaehblaa.T
