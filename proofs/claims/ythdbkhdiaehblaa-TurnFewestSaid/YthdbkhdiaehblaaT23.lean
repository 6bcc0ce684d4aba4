/- The minutes that Times tells, and what is valid: the facts that the laws want. -/
import Derived.Test.YthdbkhdiaehblaaT22
namespace Go.Proofs.Ythdbkhdiaehblaa.T
open Go.RowKit Go.Proofs.YthdbkhdiaehblaaW.PrintWords Go.Proofs.YthdbkhdiaehblaaW.PrintMore
open Go.Proofs.Ythdbkhdiaehblaa.P
set_option linter.unusedVariables false
theorem rtE {H : Hs} (h : HouseOk H) : RtOk (rtOf (pcE H) H) := by
  obtain ⟨h1, h2, h3, h4, h5, h6⟩ := h
  exact ⟨show 1 ≤ H.dh by omega, show H.dh ≤ 1000 by omega, show 0 ≤ H.walk by omega, show H.walk ≤ 1000 by omega, show 0 ≤ H.early by omega, show H.early ≤ 1000 by omega⟩
theorem rtL {H : Hs} (h : HouseOk H) : RtOk (rtOf (pcL H) H) := by
  obtain ⟨h1, h2, h3, h4, h5, h6⟩ := h
  exact ⟨show 1 ≤ H.dl by omega, show H.dl ≤ 1000 by omega, show 0 ≤ H.walk by omega, show H.walk ≤ 1000 by omega, show 0 ≤ H.early by omega, show H.early ≤ 1000 by omega⟩
theorem itE {H : Hs} (h : HouseOk H) {s : S36} (k : SlotIn H s) : ItOk (itOf (pcE H) s) := by
  obtain ⟨h1, h2, h3, h4, h5, h6⟩ := h
  obtain ⟨⟨k1, k2, k3, k4⟩, k5⟩ := k
  exact ⟨show 0 ≤ s.f1 by omega, show s.f1 ≤ 10000 by omega, show 0 ≤ s.f3 by omega, show s.f3 ≤ 1000 by omega, show 0 ≤ s.f2.f0 by omega, show s.f2.f0 ≤ 1000 by omega, show 0 ≤ H.cl by omega, show H.cl ≤ 1000 by omega⟩
theorem itL {H : Hs} (h : HouseOk H) {s : S36} (k : SlotIn H s) : ItOk (itOf (pcL H) s) := by
  obtain ⟨h1, h2, h3, h4, h5, h6⟩ := h
  obtain ⟨⟨k1, k2, k3, k4⟩, k5⟩ := k
  exact ⟨show 0 ≤ s.f1 by omega, show s.f1 ≤ 10000 by omega, show 0 ≤ s.f3 by omega, show s.f3 ≤ 1000 by omega, show 0 ≤ s.f2.f1 by omega, show s.f2.f1 ≤ 1000 by omega, show 0 ≤ H.ch by omega, show H.ch ≤ 1000 by omega⟩
theorem allE_is {H : Hs} {l : List S36} (h : HouseOk H) (k : ∀ s ∈ l, SlotIn H s) : allT (pcE H) H (dayAt 6 4) l = dayT (rtOf (pcE H) H) (l.map (itOf (pcE H))) :=
  allT_is l _ _ (fun s hs => sfitsE h (k s hs)) dayIs_morning
theorem allL_is {H : Hs} {l : List S36} (h : HouseOk H) (k : ∀ s ∈ l, SlotIn H s) : allT (pcL H) H (dayAt 6 4) l = dayT (rtOf (pcL H) H) (l.map (itOf (pcL H))) :=
  allT_is l _ _ (fun s hs => sfitsL h (k s hs)) dayIs_morning
/-- What Times tells of a slot: its earliest and its latest minutes. -/
structure Told (H : Hs) (l : List S36) (i : Nat) (s : S36) (t u : Tm) : Prop where
  m : rd_T34 (moments H l) (i : Int) = mom t u
  te : (dayT (rtOf (pcE H) H) (l.map (itOf (pcE H))))[i]? = some t
  tl : (dayT (rtOf (pcL H) H) (l.map (itOf (pcL H))))[i]? = some u
  fe : DayFacts (rtOf (pcE H) H) (l.map (itOf (pcE H))) i (itOf (pcE H) s) t
  fl : DayFacts (rtOf (pcL H) H) (l.map (itOf (pcL H))) i (itOf (pcL H) s) u
  p : PlLe t u
theorem told {H : Hs} {l : List S36} (h : HouseOk H) (k : ∀ s ∈ l, SlotIn H s) {i : Nat} {s : S36} (hi : l[i]? = some s) : ∃ t u, Told H l i s t u := by
  have hil : i < l.length := (List.getElem?_eq_some_iff.1 hi).1
  have hE : (l.map (itOf (pcE H)))[i]? = some (itOf (pcE H) s) := by rw [List.getElem?_map, hi]; rfl
  have hL : (l.map (itOf (pcL H)))[i]? = some (itOf (pcL H) s) := by rw [List.getElem?_map, hi]; rfl
  have XE : ∀ x ∈ l.map (itOf (pcE H)), ItOk x := by
    intro x hx
    obtain ⟨y, hy, rfl⟩ := List.mem_map.mp hx
    exact itE h (k y hy)
  have XL : ∀ x ∈ l.map (itOf (pcL H)), ItOk x := by
    intro x hx
    obtain ⟨y, hy, rfl⟩ := List.mem_map.mp hx
    exact itL h (k y hy)
  have tE := runT_get (rtOf (pcE H) H) _ [] i _ hE
  have tL := runT_get (rtOf (pcL H) H) _ [] i _ hL
  refine ⟨_, _, ?_, tE, tL, dayT_facts (rtE h) XE hE tE, dayT_facts (rtL h) XL hL tL, ?_⟩
  · have h1 : (moments H l)[i]? = some (mom (oneT (rtOf (pcE H) H) (runP (rtOf (pcE H) H) [] ((l.map (itOf (pcE H))).take i)) (itOf (pcE H) s)) (oneT (rtOf (pcL H) H) (runP (rtOf (pcL H) H) [] ((l.map (itOf (pcL H))).take i)) (itOf (pcL H) s))) := by
      unfold moments
      rw [allE_is h k, allL_is h k, List.getElem?_zipWith]
      unfold dayT
      rw [tE, tL]
    unfold rd_T34
    rw [List.getD_eq_getElem?_getD, Int.toNat_natCast, h1]
    rfl
  · refine (runT_mono (rtE h) (rtL h) ?_ _ _ [] [] (all2_map _ _ l fun y hy => ?_) XE AccLe.nil).get tE tL
    · exact ⟨show H.dl ≤ H.dh from h.2.2.2.2.1.2.1, Int.le_refl _, rfl⟩
    · have := (k y hy).1.2.1
      exact ⟨rfl, rfl, rfl, rfl, show y.f2.f0 ≤ y.f2.f1 from this.2.1, show H.cl ≤ H.ch from h.2.2.2.2.2.2.1⟩
end Go.Proofs.Ythdbkhdiaehblaa.T
