/- What is told of the light, in plain words. -/
import Derived.Test.YtbajpjnloikpdaaP11
namespace Go.Proofs.Ytbajpjnloikpdaa.T
open Go.RowKit Go.Proofs.YtbajpjnloikpdaaW.PrintWords Go.Proofs.YtbajpjnloikpdaaW.PrintMore
open Go.Proofs.Ytbajpjnloikpdaa.P
set_option linter.unusedVariables false
set_option linter.unusedSimpArgs false

/-! #### the least and the greatest light -/
theorem mn_le (a b : Int) : mn a b ≤ a ∧ mn a b ≤ b ∧ (mn a b = a ∨ mn a b = b) := by unfold mn; split <;> omega
theorem mx_ge (a b : Int) : a ≤ mx a b ∧ b ≤ mx a b ∧ (mx a b = a ∨ mx a b = b) := by unfold mx; split <;> omega
structure SpanOf (t : List Ln) (h lo hi : Int) : Prop where
  lo1 : ∀ x ∈ t, lo ≤ light x h
  lo2 : ∃ x ∈ t, light x h = lo
  hi1 : ∀ x ∈ t, light x h ≤ hi
  hi2 : ∃ x ∈ t, light x h = hi
theorem span_fold (h : Int) (u : List Ln) : ∀ (l : List Ln) (s : Int × Int), (∀ x ∈ u, s.1 ≤ light x h ∧ light x h ≤ s.2) → (∃ x ∈ u ++ l, light x h = s.1) → (∃ x ∈ u ++ l, light x h = s.2) →
    SpanOf (u ++ l) h (l.foldl (fun s x => (mn s.1 (light x h), mx s.2 (light x h))) s).1 (l.foldl (fun s x => (mn s.1 (light x h), mx s.2 (light x h))) s).2
  | [], s, h1, h2, h3 => by
    rw [List.append_nil] at h2 h3 ⊢
    exact ⟨fun x hx => (h1 x hx).1, h2, fun x hx => (h1 x hx).2, h3⟩
  | y :: l, s, h1, h2, h3 => by
    have hm := mn_le s.1 (light y h)
    have hM := mx_ge s.2 (light y h)
    have hy : y ∈ u ++ y :: l := by simp
    have e : u ++ y :: l = (u ++ [y]) ++ l := by simp
    rw [List.foldl_cons, e]
    refine span_fold h (u ++ [y]) l _ (fun x hx => ?_) ?_ ?_
    · rcases List.mem_append.mp hx with q | q
      · have := h1 x q
        show mn s.1 _ ≤ _ ∧ _ ≤ mx s.2 _
        omega
      · obtain rfl : x = y := by simpa using q
        show mn s.1 _ ≤ _ ∧ _ ≤ mx s.2 _
        omega
    · rw [← e]
      rcases hm.2.2 with q | q
      · show ∃ x ∈ _, light x h = mn s.1 _
        rw [q]; exact h2
      · exact ⟨y, hy, q.symm⟩
    · rw [← e]
      rcases hM.2.2 with q | q
      · show ∃ x ∈ _, light x h = mx s.2 _
        rw [q]; exact h3
      · exact ⟨y, hy, q.symm⟩
theorem span_spec {t : List Ln} {h : Int} {x0 : Ln} (hx : t[0]? = some x0) : SpanOf t h (spanT x0 t h).1 (spanT x0 t h).2 := by
  have hm := List.mem_of_getElem? hx
  have := span_fold h [] t (light x0 h, light x0 h) (fun x hx => by simp at hx) ⟨x0, by simpa using hm, rfl⟩ ⟨x0, by simpa using hm, rfl⟩
  rw [List.nil_append] at this
  exact this
theorem at_spec {M : Lm} {h : Int} (he : askE M h = 0) : SpanOf (truths M) h (atV M h).1 (atV M h).2 := by
  obtain ⟨_, _, hp⟩ := askE_ok he
  unfold atV
  rw [if_pos he]
  exact span_spec (head_at hp)
theorem SpanOf.uniq {t : List Ln} {h a b c d : Int} (s : SpanOf t h a b) (s' : SpanOf t h c d) : a = c ∧ b = d := by
  obtain ⟨x, hx, ex⟩ := s.lo2
  obtain ⟨y, hy, ey⟩ := s.hi2
  obtain ⟨z, hz, ez⟩ := s'.lo2
  obtain ⟨u, hu, eu⟩ := s'.hi2
  have h1 := s.lo1 z hz
  have h2 := s'.lo1 x hx
  have h3 := s.hi1 u hu
  have h4 := s'.hi1 y hy
  omega
/-! #### hours up to which something is so -/
theorem lastT_ge {so : Int → Prop} {f bd r : Int} (h1 : f ≤ r) (h2 : r ≤ bd) (h3 : ∀ x, f ≤ x → x ≤ r → so x) : r ≤ lastT so f bd := by
  rcases lastT_spec (so := so) (f := f) (bd := bd) with ⟨e, k⟩ | ⟨a, b, c, d⟩
  · exact absurd (h3 f (by omega) h1) (k (by omega))
  · apply Classical.byContradiction
    intro ne
    exact d (by omega) (h3 _ (by omega) (by omega))
theorem lastT_so {so : Int → Prop} {f bd x : Int} (h0 : 0 ≤ f) (h1 : f ≤ x) (h2 : x ≤ lastT so f bd) : so x := by
  rcases lastT_spec (so := so) (f := f) (bd := bd) with ⟨e, k⟩ | ⟨a, b, c, d⟩
  · omega
  · exact c x h1 h2
theorem lastT_le {so : Int → Prop} {f bd : Int} : lastT so f bd = -1 ∨ f ≤ lastT so f bd ∧ lastT so f bd ≤ bd := by
  rcases lastT_spec (so := so) (f := f) (bd := bd) with ⟨e, k⟩ | ⟨a, b, c, d⟩
  · exact .inl e
  · exact .inr ⟨a, b⟩
theorem lastT_stop {so : Int → Prop} {f bd x : Int} (h0 : 0 ≤ f) (h1 : f ≤ x) (h2 : x ≤ bd) (h3 : lastT so f bd < x) : ¬ ∀ y, f ≤ y → y ≤ x → so y := fun k => by
  have := lastT_ge h1 h2 k
  omega
theorem lastT_from {so : Int → Prop} {f k bd : Int} (h0 : 0 ≤ f) (h1 : f ≤ k) (h2 : k ≤ lastT so f bd) : lastT so k bd = lastT so f bd := by
  rcases lastT_spec (so := so) (f := f) (bd := bd) with ⟨e, q⟩ | ⟨a, b, c, d⟩
  · omega
  · have h3 : lastT so f bd ≤ lastT so k bd := lastT_ge h2 b (fun x q1 q2 => c x (by omega) q2)
    rcases lastT_spec (so := so) (f := k) (bd := bd) with ⟨e, q⟩ | ⟨a', b', c', d'⟩
    · omega
    · apply Classical.byContradiction
      intro ne
      exact d (by omega) (c' _ (by omega) (by omega))
theorem may_fold {a b f ra : Int} : ∀ (t : List Ln) (m : Int), m ≤ t.foldl (fun m x => mx m (lastT (isK a b x) f ra)) m ∧ (∀ x ∈ t, lastT (isK a b x) f ra ≤ t.foldl (fun m x => mx m (lastT (isK a b x) f ra)) m) ∧ (t.foldl (fun m x => mx m (lastT (isK a b x) f ra)) m = m ∨ ∃ x ∈ t, t.foldl (fun m x => mx m (lastT (isK a b x) f ra)) m = lastT (isK a b x) f ra)
  | [], m => ⟨Int.le_refl _, fun x hx => by simp at hx, .inl rfl⟩
  | y :: t, m => by
    obtain ⟨h1, h2, h3⟩ := may_fold (a := a) (b := b) (f := f) (ra := ra) t (mx m (lastT (isK a b y) f ra))
    have hm := mx_ge m (lastT (isK a b y) f ra)
    rw [List.foldl_cons]
    refine ⟨by omega, fun x hx => ?_, ?_⟩
    · rcases List.mem_cons.mp hx with rfl | hx
      · omega
      · exact h2 x hx
    · rcases h3 with h3 | ⟨x, hx, e⟩
      · rcases hm.2.2 with q | q
        · exact .inl (h3.trans q)
        · exact .inr ⟨y, List.mem_cons_self, h3.trans q⟩
      · exact .inr ⟨x, List.mem_cons_of_mem _ hx, e⟩
theorem may_spec {a b f ra : Int} (t : List Ln) : -1 ≤ mayT a b f ra t ∧ (∀ x ∈ t, lastT (isK a b x) f ra ≤ mayT a b f ra t) ∧ (mayT a b f ra t = -1 ∨ ∃ x ∈ t, mayT a b f ra t = lastT (isK a b x) f ra) := may_fold t (-1)
theorem sure_le {a b f ra : Int} {t : List Ln} (h0 : 0 ≤ f) (ht : 0 < t.length) : sureT a b f ra t ≤ mayT a b f ra t := by
  obtain ⟨h1, h2, h3⟩ := may_spec (a := a) (b := b) (f := f) (ra := ra) t
  unfold sureT
  rcases lastT_spec (so := fun h => keepsT a b t h = 1) (f := f) (bd := ra) with ⟨e, k⟩ | ⟨q1, q2, q3, q4⟩
  · omega
  · have hm : t[0] ∈ t := List.getElem_mem ht
    refine Int.le_trans (lastT_ge q1 q2 fun x k1 k2 => keepsT_one.mp (q3 x k1 k2) _ hm) (h2 _ hm)
/-! #### LampFades -/
theorem askE_hour {M : Lm} {h k : Int} (hV : LampOk M) (h1 : inR h 0 40) (h2 : inR k 0 40) : askE M h = askE M k := by
  by_cases hp : (truths M).length = 0
  · rw [askE_3 hV h1 hp, askE_3 hV h2 hp]
  · rw [askE_0 hV h1 hp, askE_0 hV h2 hp]
theorem askE_3_0 {M : Lm} {h : Int} (hV : LampOk M) (h1 : inR h 0 40) (k : ¬ askE M h = 0) : askE M h = 3 := by
  by_cases hp : (truths M).length = 0
  · exact askE_3 hV h1 hp
  · exact absurd (askE_0 hV h1 hp) k
theorem light_fades {x : Ln} (hx : PtOk x) {h k : Int} (h1 : h ≤ k) : light x k ≤ light x h := by
  have := Int.mul_le_mul_of_nonneg_right h1 hx.b0
  unfold light
  omega
theorem fades_plain {M : Lm} {h k : Int} (h0 : inR h 0 40) (h1 : inR k 0 40) (hk : h ≤ k) (he : askE M h = 0) :
    (atV M k).1 ≤ (atV M h).1 ∧ (atV M k).2 ≤ (atV M h).2 ∧ (atV M h).1 ≤ (atV M h).2 ∧ (untilV M h).1 ≤ (untilV M h).2 ∧ (k ≤ (untilV M h).1 → (untilV M k).1 = (untilV M h).1) := by
  obtain ⟨hV, _, hp⟩ := askE_ok he
  have he' : askE M k = 0 := (askE_hour hV h0 h1).symm.trans he
  have A := at_spec he
  have B := at_spec he'
  obtain ⟨x, hx, ex⟩ := A.lo2
  obtain ⟨y, hy, ey⟩ := A.hi2
  obtain ⟨z, hz, ez⟩ := B.hi2
  have q1 := B.lo1 x hx
  have q2 := light_fades (truths_ok hV.1 hx) hk
  have q3 := A.hi1 z hz
  have q4 := light_fades (truths_ok hV.1 hz) hk
  have q5 := A.hi1 x hx
  refine ⟨by omega, by omega, by omega, ?_, fun hs => ?_⟩
  · unfold untilV
    rw [if_pos he]
    exact sure_le h0.1 hp
  · unfold untilV at hs ⊢
    rw [if_pos he] at hs ⊢
    rw [if_pos he']
    exact lastT_from h0.1 hk hs
end Go.Proofs.Ytbajpjnloikpdaa.T
