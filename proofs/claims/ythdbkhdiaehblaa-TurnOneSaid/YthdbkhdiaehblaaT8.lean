/- What is valid: the document's own look answers the same. -/
import Derived.Test.YthdbkhdiaehblaaT7
namespace Go.Proofs.Ythdbkhdiaehblaa.T
open Go.RowKit Go.Proofs.YthdbkhdiaehblaaW.PrintWords Go.Proofs.YthdbkhdiaehblaaW.PrintLast Go.Proofs.YthdbkhdiaehblaaW.PrintMore
open Go.Proofs.Ythdbkhdiaehblaa.P
set_option linter.unusedVariables false
set_option linter.unusedSimpArgs false
theorem ref_inner (H : Hs) (l : List S36) (i : Nat) (hi : i < l.length) (hn : l.length ≤ 12) (k : Nat) (d : Nat) : ∀ (j : Nat), j + d = i →
    bijouref06_Check.l1 (k + d + 1) l (i : Int) (j : Int) H.teams H.walk H.early H.foyer H.dl H.dh H.cl H.ch =
      if (∀ o ∈ (l.take i).drop j, ¬ (o.f0 = l[i].f0 ∧ o.f1 = l[i].f1)) then bijouref06_Check.l0 k l ((i + 1 : Nat) : Int) H.teams H.walk H.early H.foyer H.dl H.dh H.cl H.ch else some 61 := by
  induction d with
  | zero =>
    intro j hj
    have hw : wrap64 ((i : Int) + 1) = ((i + 1 : Nat) : Int) := by unfold wrap64; omega
    simp only [Nat.add_zero, bijouref06_Check.l1]
    rw [if_neg (by omega), hw, List.drop_eq_nil_of_le (by rw [List.length_take]; omega), if_pos (by simp)]
  | succ d ih =>
    intro j hj
    have hw : wrap64 ((j : Int) + 1) = ((j + 1 : Nat) : Int) := by unfold wrap64; omega
    have hjl : j < l.length := by omega
    have hd : (l.take i).drop j = l[j] :: (l.take i).drop (j + 1) := by
      rw [List.drop_eq_getElem_cons (by rw [List.length_take]; omega), List.getElem_take]
    have ih' := ih (j + 1) (by omega)
    obtain ⟨m, hm⟩ : ∃ m, k + d + 1 = m := ⟨_, rfl⟩
    rw [hm] at ih'
    rw [show k + (d + 1) + 1 = m + 1 by omega]
    simp only [bijouref06_Check.l1]
    rw [if_pos (by omega), if_pos (by omega), if_pos (by omega), if_pos (by omega), if_pos (by omega), rd36 l i hi, rd36 l j hjl, hw, ih', hd]
    generalize l[j] = x
    generalize (l.take i).drop (j + 1) = r
    by_cases h1 : x.f0 = l[i].f0 <;> by_cases h2 : x.f1 = l[i].f1 <;> simp [h1, h2]
open Classical in
theorem ref_loop (H : Hs) (l : List S36) (hh : HouseOk H) (hn : l.length ≤ 12) (d : Nat) : ∀ (k : Nat) (i : Nat), i + d = l.length → 20 * d + 20 < k →
    bijouref06_Check.l0 k l (i : Int) H.teams H.walk H.early H.foyer H.dl H.dh H.cl H.ch = some (if OkFrom H l i then 0 else 61) := by
  induction d with
  | zero =>
    intro k i hi hk
    obtain ⟨k, rfl⟩ : ∃ m, k = m + 1 := ⟨k - 1, by omega⟩
    simp only [bijouref06_Check.l0]
    rw [if_neg (by omega), if_pos (okFrom_end H l i (by omega))]
  | succ d ih =>
    intro k i hi hk
    obtain ⟨m, q, hq, hm, hk'⟩ : ∃ m q, k = (q + 1) + 1 ∧ m + i + 1 = q ∧ 20 * d + 20 < m := ⟨k - i - 3, k - 2, by omega, by omega, by omega⟩
    subst hq
    have hlt : i < l.length := by omega
    have hin := ref_inner H l i hlt hn m i 0 (by omega)
    have hs := okFrom_step H l i hlt
    rw [ih m (i + 1) (by omega) hk', hm, Int.natCast_zero] at hin
    simp only [bijouref06_Check.l0]
    rw [if_pos (by omega), if_pos (by omega), rd36 l i hlt, slot_ref H _ hh, within_ref]
    simp only [Option.bind_some]
    by_cases h1 : SlotOk H l[i]
    · rw [if_pos (by simpa using h1)]
      by_cases h2 : 0 ≤ l[i].f1 ∧ l[i].f1 ≤ 2000
      · rw [if_pos (by simpa using h2)]
        have key : ∀ b : Bool, (b = true ↔ (i ≠ 0 ∧ l[i].f1 < (rd_T36 (l.take i) (((l.take i).length : Int) - 1)).f1)) →
            bijouref06_Check.j1 (q + 1) l (i : Int) b H.teams H.walk H.early H.foyer H.dl H.dh H.cl H.ch = some (if OkFrom H l i then 0 else 61) := by
          intro b hb
          simp only [bijouref06_Check.j1]
          by_cases h3 : b = true
          · rw [if_pos h3, if_neg]
            intro h
            have h4 := hb.mp h3
            have h5 := ((hs.mp h).1.2.2.1) (by intro h6; have h7 := congrArg List.length h6; rw [List.length_take, List.length_nil] at h7; have h8 := h4.1; omega)
            have h9 := h4.2
            omega
          · rw [if_neg h3, hin]
            by_cases h4 : ∀ o ∈ (l.take i).drop 0, ¬ (o.f0 = l[i].f0 ∧ o.f1 = l[i].f1)
            · rw [if_pos h4]
              have h5 : FollowsOk (l.take i) l[i] := ⟨h2, fun h6 => by
                rcases Classical.em (i = 0) with rfl | h7
                · simp at h6
                · exact Int.not_lt.mp (fun h8 => h3 (hb.mpr ⟨h7, h8⟩)), by simpa using h4⟩
              by_cases h6 : OkFrom H l (i + 1)
              · rw [if_pos h6, if_pos (hs.mpr ⟨⟨h1, h5⟩, h6⟩)]
              · rw [if_neg h6, if_neg (fun h => h6 (hs.mp h).2)]
            · rw [if_neg h4, if_neg]
              intro h
              exact h4 (by simpa using (hs.mp h).1.2.2.2)
        by_cases h3 : i = 0
        · subst h3
          rw [if_neg (by simp)]
          exact key false (by simp)
        · have hw : wrap64 ((i : Int) - 1) = ((i - 1 : Nat) : Int) := by unfold wrap64; omega
          rw [if_pos (by omega), hw, if_pos (by omega), if_pos (by omega)]
          refine key _ ?_
          have e1 : rd_T36 (l.take i) (((l.take i).length : Int) - 1) = rd_T36 l ((i - 1 : Nat) : Int) := by
            have e2 : (((l.take i).length : Int) - 1) = ((i - 1 : Nat) : Int) := by rw [List.length_take]; omega
            rw [e2, rd36 _ _ (by rw [List.length_take]; omega), rd36 _ _ (by omega), List.getElem_take]
          rw [e1]
          simp [h3]
      · rw [if_neg (by simpa using h2)]
        simp only [bijouref06_Check.j1]
        rw [if_pos trivial, if_neg]
        intro h
        exact h2 (hs.mp h).1.2.1
    · rw [if_neg (by simpa using h1)]
      simp only [bijouref06_Check.j1]
      rw [if_pos trivial, if_neg]
      intro h
      exact h1 (hs.mp h).1.1
theorem check_ref (H : Hs) (l : List S36) (hl : l.length ≤ 1000000000000) : bijouref06_Check.f 300 H.teams H.walk H.early H.foyer H.dl H.dh H.cl H.ch l = some (checkE H l) := by
  unfold bijouref06_Check.f checkE
  rw [house_ref]
  simp only [Option.bind_some]
  by_cases hh : HouseOk H
  · rw [if_pos (by simpa using hh), if_pos hh]
    by_cases hn : l.length ≤ 12
    · rw [if_neg (by omega), if_pos hn]
      exact ref_loop H l hh hn l.length 300 0 (by omega) (by omega)
    · rw [if_pos (by omega), if_neg hn]
  · rw [if_neg (by simpa using hh), if_neg hh]
theorem checkE_valid (H : Hs) (l : List S36) : checkE H l = 0 ↔ Valid H l := by
  unfold checkE Valid
  by_cases h1 : HouseOk H <;> by_cases h2 : l.length ≤ 12 <;> by_cases h3 : OkFrom H l 0 <;> simp [h1, h2, h3]
end Go.Proofs.Ythdbkhdiaehblaa.T
