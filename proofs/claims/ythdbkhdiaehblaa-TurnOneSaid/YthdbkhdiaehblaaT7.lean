/- What is valid: the printed functions of both texts answer one plain question. -/
import Derived.Test.YthdbkhdiaehblaaA2
import Derived.Test.YthdbkhdiaehblaaA3
import Derived.Test.YthdbkhdiaehblaaT1
namespace Go.Proofs.Ythdbkhdiaehblaa.T
open Go.RowKit Go.Proofs.YthdbkhdiaehblaaW.PrintWords Go.Proofs.YthdbkhdiaehblaaW.PrintLast Go.Proofs.YthdbkhdiaehblaaW.PrintMore
open Go.Proofs.Ythdbkhdiaehblaa.P
set_option linter.unusedVariables false
set_option linter.unusedSimpArgs false
def HouseOk (H : Hs) : Prop := (1 ≤ H.teams ∧ H.teams ≤ 4) ∧ (0 ≤ H.walk ∧ H.walk ≤ 60) ∧ (0 ≤ H.early ∧ H.early ≤ 120) ∧ (0 ≤ H.foyer ∧ H.foyer ≤ 5000) ∧ (1 ≤ H.dl ∧ H.dl ≤ H.dh ∧ H.dh ≤ 100) ∧ (1 ≤ H.cl ∧ H.cl ≤ H.ch ∧ H.ch ≤ 120)
instance (H : Hs) : Decidable (HouseOk H) := by unfold HouseOk; infer_instance
def SlotOk (H : Hs) (s : S36) : Prop := (0 ≤ s.f0 ∧ s.f0 ≤ 5) ∧ (1 ≤ s.f2.f0 ∧ s.f2.f0 ≤ s.f2.f1 ∧ s.f2.f1 ≤ 400) ∧ (0 ≤ s.f3 ∧ s.f3 ≤ 500) ∧ (0 ≤ s.f4 ∧ s.f4 ≤ H.teams - 1)
instance (H : Hs) (s : S36) : Decidable (SlotOk H s) := by unfold SlotOk; infer_instance
/-- A slot may stand behind others. -/
def FollowsOk (l : List S36) (s : S36) : Prop := (0 ≤ s.f1 ∧ s.f1 ≤ 2000) ∧ (l ≠ [] → (rd_T36 l ((l.length : Int) - 1)).f1 ≤ s.f1) ∧ ∀ o ∈ l, ¬ (o.f0 = s.f0 ∧ o.f1 = s.f1)
instance (l : List S36) (s : S36) : Decidable (FollowsOk l s) := by
  unfold FollowsOk
  have : Decidable (l ≠ [] → (rd_T36 l ((l.length : Int) - 1)).f1 ≤ s.f1) := by
    by_cases h : l = []
    · exact isTrue (fun h' => absurd h h')
    · by_cases h2 : (rd_T36 l ((l.length : Int) - 1)).f1 ≤ s.f1
      · exact isTrue (fun _ => h2)
      · exact isFalse (fun h' => h2 (h' h))
  infer_instance
theorem house_ref (H : Hs) : bijouref06_IsHouse.f H.teams H.walk H.early H.foyer H.dl H.dh H.cl H.ch = some (decide (HouseOk H)) := by
  unfold bijouref06_IsHouse.f bijouref06_isSpan.f bijouref06_within.f HouseOk
  by_cases h1 : 1 ≤ H.teams <;> by_cases h2 : H.teams ≤ 4 <;> by_cases h3 : 0 ≤ H.walk <;> by_cases h4 : H.walk ≤ 60 <;> simp [h1, h2, h3, h4]
  by_cases h5 : 0 ≤ H.early <;> by_cases h6 : H.early ≤ 120 <;> by_cases h7 : 0 ≤ H.foyer <;> by_cases h8 : H.foyer ≤ 5000 <;> simp [h5, h6, h7, h8]
  by_cases h9 : 1 ≤ H.dl <;> by_cases ha : H.dl ≤ H.dh <;> by_cases hb : H.dh ≤ 100 <;> simp [h9, ha, hb]
  by_cases h9 : 1 ≤ H.cl <;> by_cases ha : H.cl ≤ H.ch <;> by_cases hb : H.ch ≤ 120 <;> simp [h9, ha, hb]
theorem span_own (a b m : Int) : turn_isSpan.f a b 1 m = some (decide (1 ≤ a ∧ a ≤ b ∧ b ≤ m)) := by
  unfold turn_isSpan.f turn_within.f
  by_cases h9 : 1 ≤ a <;> by_cases ha : a ≤ b <;> by_cases hb : b ≤ m <;> by_cases hc : a ≤ m <;> by_cases hd : 1 ≤ b <;> simp [h9, ha, hb, hc, hd] <;> omega
theorem span_ref (a b m : Int) : bijouref06_isSpan.f a b 1 m = some (decide (1 ≤ a ∧ a ≤ b ∧ b ≤ m)) := by
  unfold bijouref06_isSpan.f
  by_cases h9 : 1 ≤ a <;> by_cases ha : a ≤ b <;> by_cases hb : b ≤ m <;> simp [h9, ha, hb]
theorem within_own (a lo hi : Int) : turn_within.f a lo hi = some (decide (lo ≤ a ∧ a ≤ hi)) := by
  unfold turn_within.f
  by_cases h : lo ≤ a <;> by_cases h2 : a ≤ hi <;> simp [h, h2]
theorem within_ref (a lo hi : Int) : bijouref06_within.f a lo hi = some (decide (lo ≤ a ∧ a ≤ hi)) := by
  unfold bijouref06_within.f
  by_cases h : lo ≤ a <;> by_cases h2 : a ≤ hi <;> simp [h, h2]
theorem house_own (H : Hs) : turn_isHouse.f H.teams H.walk H.early H.foyer H.dl H.dh H.cl H.ch = some (decide (HouseOk H)) := by
  unfold turn_isHouse.f
  simp only [span_own, within_own]
  unfold HouseOk
  by_cases h1 : 1 ≤ H.teams ∧ H.teams ≤ 4 <;> by_cases h2 : 0 ≤ H.walk ∧ H.walk ≤ 60 <;> by_cases h3 : 0 ≤ H.early ∧ H.early ≤ 120 <;> by_cases h4 : 0 ≤ H.foyer ∧ H.foyer ≤ 5000 <;> by_cases h5 : 1 ≤ H.dl ∧ H.dl ≤ H.dh ∧ H.dh ≤ 100 <;> simp [h1, h2, h3, h4, h5]
theorem slot_own (H : Hs) (s : S36) (hh : HouseOk H) : turn_isSlot.f H.teams H.walk H.early H.foyer H.dl H.dh H.cl H.ch s.f0 s.f1 s.f2.f0 s.f2.f1 s.f3 s.f4 = some (decide (SlotOk H s)) := by
  have hw : wrap64 (H.teams - 1) = H.teams - 1 := by have := hh.1; unfold wrap64; omega
  unfold turn_isSlot.f
  simp only [span_own, within_own, hw]
  unfold SlotOk
  by_cases h1 : 0 ≤ s.f0 ∧ s.f0 ≤ 5 <;> by_cases h2 : 1 ≤ s.f2.f0 ∧ s.f2.f0 ≤ s.f2.f1 ∧ s.f2.f1 ≤ 400 <;> by_cases h3 : 0 ≤ s.f3 ∧ s.f3 ≤ 500 <;> simp [h1, h2, h3]
theorem slot_ref (H : Hs) (s : S36) (hh : HouseOk H) : bijouref06_IsSlot.f H.teams H.walk H.early H.foyer H.dl H.dh H.cl H.ch s.f0 s.f1 s.f2.f0 s.f2.f1 s.f3 s.f4 = some (decide (SlotOk H s)) := by
  have hw : wrap64 (H.teams - 1) = H.teams - 1 := by have := hh.1; unfold wrap64; omega
  unfold bijouref06_IsSlot.f
  simp only [span_ref, within_ref, hw]
  unfold SlotOk
  by_cases h1 : 0 ≤ s.f0 ∧ s.f0 ≤ 5 <;> by_cases h2 : 1 ≤ s.f2.f0 ∧ s.f2.f0 ≤ s.f2.f1 ∧ s.f2.f1 ≤ 400 <;> by_cases h3 : 0 ≤ s.f3 ∧ s.f3 ≤ 500 <;> simp [h1, h2, h3]
/-- No slot of a row, from place i on, is on this screen at this minute. -/
theorem follows_loop (l : List S36) (s : S36) (hn : l.length ≤ 1000000) (d : Nat) : ∀ (k : Nat) (i : Nat), i + d = l.length → d < k →
    turn_follows.l0 k l (l.length : Int) (i : Int) s.f0 s.f1 s.f2.f0 s.f2.f1 s.f3 s.f4 = some (decide (∀ o ∈ l.drop i, ¬ (o.f0 = s.f0 ∧ o.f1 = s.f1))) := by
  induction d with
  | zero =>
    intro k i hi hk
    obtain ⟨k, rfl⟩ : ∃ m, k = m + 1 := ⟨k - 1, by omega⟩
    simp only [turn_follows.l0]
    rw [if_neg (by omega), List.drop_eq_nil_of_le (by omega)]
    simp
  | succ d ih =>
    intro k i hi hk
    obtain ⟨k, rfl⟩ : ∃ m, k = m + 1 := ⟨k - 1, by omega⟩
    have hlt : i < l.length := by omega
    have hr : rd_T36 l (i : Int) = l[i] := by unfold rd_T36; simp [List.getD_eq_getElem?_getD, List.getElem?_eq_getElem hlt]
    have hw : wrap64 ((i : Int) + 1) = ((i + 1 : Nat) : Int) := by unfold wrap64; omega
    have hd : l.drop i = l[i] :: l.drop (i + 1) := List.drop_eq_getElem_cons hlt
    simp only [turn_follows.l0]
    rw [if_pos (by omega), if_pos (by omega), if_pos (by omega), hr, hw, hd, ih k (i + 1) (by omega) (by omega)]
    generalize l[i] = x
    generalize l.drop (i + 1) = r
    by_cases h1 : x.f0 = s.f0 <;> by_cases h2 : x.f1 = s.f1 <;> simp [h1, h2]
theorem follows_own (l : List S36) (s : S36) (hn : l.length ≤ 1000000) (k : Nat) (hk : l.length + 1 < k) :
    turn_follows.f k l s.f0 s.f1 s.f2.f0 s.f2.f1 s.f3 s.f4 = some (decide (FollowsOk l s)) := by
  obtain ⟨k, rfl⟩ : ∃ m, k = m + 1 := ⟨k - 1, by omega⟩
  have hl := follows_loop l s hn l.length k 0 (by omega) (by omega)
  unfold turn_follows.f
  simp only [within_own]
  unfold FollowsOk
  by_cases h1 : 0 ≤ s.f1 ∧ s.f1 ≤ 2000
  · simp only [Option.bind_some, h1, decide_true, and_self, if_true, true_and]
    by_cases h0 : l = []
    · subst h0
      simp only [List.length_nil]
      rw [if_neg (by simp)]
      simp only [turn_follows.j0]
      rw [if_neg (by simp)]
      simpa using hl
    · have hpos : 0 < l.length := List.length_pos_iff.mpr h0
      have hw : wrap64 ((l.length : Int) - 1) = (l.length : Int) - 1 := by unfold wrap64; omega
      rw [if_pos (by omega), hw, if_pos (by omega), if_pos (by omega)]
      simp only [turn_follows.j0]
      by_cases h2 : s.f1 < (rd_T36 l ((l.length : Int) - 1)).f1
      · rw [if_pos (by simpa using h2)]
        simp [h0]
        intro h3
        omega
      · rw [if_neg (by simpa using h2)]
        rw [show (0 : Int) = ((0 : Nat) : Int) from rfl, hl]
        simp [h0]
        intro _
        omega
  · simp only [Option.bind_some, h1, decide_false, if_false, false_and]
    simp [turn_follows.j0]
/-- From place i on each slot is right. -/
def OkFrom (H : Hs) (l : List S36) (i : Nat) : Prop := ∀ j, i ≤ j → ∀ h : j < l.length, SlotOk H (l[j]'h) ∧ FollowsOk (l.take j) (l[j]'h)
/-- A house and slots are valid. -/
def Valid (H : Hs) (l : List S36) : Prop := HouseOk H ∧ l.length ≤ 12 ∧ OkFrom H l 0
open Classical in
/-- The error that both texts tell of a house and slots. -/
noncomputable def checkE (H : Hs) (l : List S36) : Int := if HouseOk H then (if l.length ≤ 12 then (if OkFrom H l 0 then 0 else 61) else 61) else 60
theorem rd36 (l : List S36) (i : Nat) (h : i < l.length) : rd_T36 l (i : Int) = l[i] := by unfold rd_T36; simp [List.getD_eq_getElem?_getD, List.getElem?_eq_getElem h]
theorem okFrom_end (H : Hs) (l : List S36) (i : Nat) (h : l.length ≤ i) : OkFrom H l i := fun j hj hlt => absurd hlt (by omega)
theorem okFrom_step (H : Hs) (l : List S36) (i : Nat) (h : i < l.length) : OkFrom H l i ↔ (SlotOk H l[i] ∧ FollowsOk (l.take i) l[i]) ∧ OkFrom H l (i + 1) := by
  constructor
  · intro k
    exact ⟨k i (Nat.le_refl _) h, fun j hj hlt => k j (by omega) hlt⟩
  · rintro ⟨k1, k2⟩ j hj hlt
    rcases Nat.lt_or_eq_of_le hj with h1 | rfl
    · exact k2 j (by omega) hlt
    · exact k1
open Classical in
theorem check_loop (H : Hs) (l : List S36) (hh : HouseOk H) (hn : l.length ≤ 12) (d : Nat) : ∀ (k : Nat) (i : Nat), i + d = l.length → d + 20 < k →
    turn_Check.l0 k l l (l.length : Int) (i : Int) H.teams H.walk H.early H.foyer H.dl H.dh H.cl H.ch = some (if OkFrom H l i then 0 else 61) := by
  induction d with
  | zero =>
    intro k i hi hk
    obtain ⟨k, rfl⟩ : ∃ m, k = m + 1 := ⟨k - 1, by omega⟩
    simp only [turn_Check.l0]
    rw [if_neg (by omega), if_pos (okFrom_end H l i (by omega))]
  | succ d ih =>
    intro k i hi hk
    obtain ⟨k, rfl⟩ : ∃ m, k = m + 1 := ⟨k - 1, by omega⟩
    have hlt : i < l.length := by omega
    have hw : wrap64 ((i : Int) + 1) = ((i + 1 : Nat) : Int) := by unfold wrap64; omega
    have hf := follows_own (l.take i) l[i] (by rw [List.length_take]; omega) k (by rw [List.length_take]; omega)
    simp only [turn_Check.l0]
    rw [if_pos (by omega), if_pos (by omega), if_pos (by omega), rd36 l i hlt, slot_own H _ hh, hw, ih k (i + 1) (by omega) (by omega)]
    simp only [Option.bind_some, Int.toNat_natCast, hf]
    have hs := okFrom_step H l i hlt
    by_cases h1 : SlotOk H l[i]
    · rw [if_pos (by simpa using h1), if_pos (by omega)]
      by_cases h2 : FollowsOk (l.take i) l[i]
      · rw [if_pos (by simpa using h2)]
        by_cases h3 : OkFrom H l (i + 1)
        · rw [if_pos h3, if_pos (hs.mpr ⟨⟨h1, h2⟩, h3⟩)]
        · rw [if_neg h3, if_neg (fun h => h3 (hs.mp h).2)]
      · rw [if_neg (by simpa using h2), if_neg (fun h => h2 (hs.mp h).1.2)]
    · rw [if_neg (by simpa using h1), if_neg (fun h => h1 (hs.mp h).1.1)]
theorem check_own (H : Hs) (l : List S36) (hl : l.length ≤ 1000000000000) : turn_Check.f 40 H.teams H.walk H.early H.foyer H.dl H.dh H.cl H.ch l = some (checkE H l) := by
  unfold turn_Check.f checkE
  rw [house_own]
  simp only [Option.bind_some]
  by_cases hh : HouseOk H
  · rw [if_pos (by simpa using hh), if_pos hh]
    by_cases hn : l.length ≤ 12
    · rw [if_neg (by omega), if_pos hn]
      exact check_loop H l hh hn l.length 40 0 (by omega) (by omega)
    · rw [if_pos (by omega), if_neg hn]
  · rw [if_neg (by simpa using hh), if_neg hh]
theorem check_calls (H : Hs) (l : List S36) (A1 : Option Addr) (c1 : Nat) (w : World) (hl : l.length ≤ 1000000000000) (hr : Kd.C k36 w A1 l.length l) (hc : l.length ≤ c1) :
    Calls Try.prog 29 #[hv H, .slice A1 l.length c1] w fun e w' => e = .returned (.int .i64 (checkE H l)) ∧ Below w.heap.size w w' :=
  turn_Check.calls 40 _ _ _ _ _ _ _ _ A1 c1 l _ w hr hc (check_own H l hl)
end Go.Proofs.Ythdbkhdiaehblaa.T
