/- The engine for great frames: regions that draw, whose reads hold only till one operation of theirs writes. -/
import Derived.Test.YtbajpjnloikpdaaE6
namespace Go.Proofs.Ytbajpjnloikpdaa.E
open Go.RowKit Go.Proofs.YtbajpjnloikpdaaW.PrintWords Go.Proofs.YtbajpjnloikpdaaW.PrintMore
open Go.Proofs.Ytbajpjnloikpdaa.T
set_option linter.unusedVariables false
set_option linter.unusedSimpArgs false
/-- Till operation b has come up S1 is known of the world, then S0. -/
def SJ (b : Nat) (S1 S0 : World → Prop) (L : Array Bool) (w : World) : Prop := bif L.getD b false then S0 w else S1 w
theorem SJ.before {b : Nat} {S1 S0 : World → Prop} {L : Array Bool} {w : World} (h : L.getD b false = false) : SJ b S1 S0 L w ↔ S1 w := by unfold SJ; rw [h]; rfl
theorem SJ.behind {b : Nat} {S1 S0 : World → Prop} {L : Array Bool} {w : World} (h : L.getD b false = true) : SJ b S1 S0 L w ↔ S0 w := by unfold SJ; rw [h]; rfl
theorem SJ.or {b : Nat} {S1 S0 : World → Prop} {L : Array Bool} {w : World} (h : SJ b S1 S0 L w) : S1 w ∨ S0 w := by
  unfold SJ at h
  cases hb : L.getD b false <;> rw [hb] at h
  · exact .inl h
  · exact .inr h
theorem SJ.same {b i : Nat} {S1 S0 : World → Prop} {L : Array Bool} {w : World} (h : i ≠ b) : SJ b S1 S0 (L.setIfInBounds i true) w ↔ SJ b S1 S0 L w := by unfold SJ; rw [getD_set_ne false h]
def wpAnyJ (P : Program) (ops : Array Oper) (Q : Exit → Act → World → Prop) (b : Nat) (S1 S0 : World → Prop) : Nat → Array Bool → Act → World → Prop
  | 0, L, a, w => Region.ready .any ops L = [] ∧ Q .normal a w
  | f + 1, L, a, w => (Region.ready .any ops L = [] → Q .normal a w) ∧ ∀ i ∈ Region.ready .any ops L, wpOp P ops Q i (fun a' w' => SJ b S1 S0 (L.setIfInBounds i true) w' ∧ wpAnyJ P ops Q b S1 S0 f (L.setIfInBounds i true) a' w') a w
section
variable {P : Program} {ops : Array Oper} {Q : Exit → Act → World → Prop} {b : Nat} {S1 S0 : World → Prop}
theorem wpAny_of_J : ∀ (f : Nat) (L : Array Bool) (a : Act) (w : World), wpAnyJ P ops Q b S1 S0 f L a w → wpAny P .any ops Q f L a w
  | 0, _, _, _, h => h
  | f + 1, _, _, _, h => ⟨h.1, fun i hi => wpOp_mono (fun a' w' h' => wpAny_of_J f _ a' w' h'.2) (h.2 i hi)⟩
/-- An operation that b waits for may be taken first: what it leaves is told in the worlds before b. -/
theorem J_first1 {i : Nat} {oi ob : Oper} {v : Value} (hi : ops[i]? = some oi) (hib : i ≠ b) (hob : ops[b]? = some ob) (hbi : ∃ e ∈ ob.after, Region.binds .any e = true ∧ e.on = i) (hsel : ∀ (j : Nat) (o : Oper) cs c, ops[j]? = some o → o.op ≠ .select cs c)
    (hQ : ∀ c a w, Q (.panic c) (a.put oi.dst v) w → Q (.panic c) a w) :
    ∀ (fuel : Nat) (L : Array Bool) (a : Act) (w : World), L.getD b false = false →
      (∀ j oj, ops[j]? = some oj → j ≠ i → L.getD j true = false → (∀ e ∈ oj.after, Region.binds .any e = true → e.on ≠ i) → oi.apart ops oj = true) →
      i ∈ Region.ready .any ops L → YieldsIf P ops S1 oi v a → S1 w →
      wpAnyJ P ops Q b S1 S0 fuel (L.setIfInBounds i true) (a.put oi.dst v) w → wpAnyJ P ops Q b S1 S0 (fuel + 1) L a w := by
  intro fuel
  induction fuel with
  | zero =>
    intro L a w hb _ hr hy hS H
    refine ⟨fun h => (by rw [h] at hr; cases hr), fun j hj => ?_⟩
    by_cases hji : j = i
    · subst hji; exact hy.wpOp hi hS ⟨(SJ.same hib).mpr ((SJ.before hb).mpr hS), H⟩
    · have := ready_mono hj hji
      rw [H.1] at this
      cases this
  | succ fuel ih =>
    intro L a w hb hfree hr hy hS H
    refine ⟨fun h => (by rw [h] at hr; cases hr), fun j hj => ?_⟩
    by_cases hji : j = i
    · subst hji; exact hy.wpOp hi hS ⟨(SJ.same hib).mpr ((SJ.before hb).mpr hS), H⟩
    · have h1 := H.2 j (ready_mono hj hji)
      obtain ⟨hjun, oj, hoj, hall⟩ := mem_ready.1 hj
      have h0 := (mem_ready.1 hr).1
      have nol : ∀ k, k = i → L.getD k false = true → False := fun k hk h' => by
        subst hk
        rcases Nat.lt_or_ge k L.size with h2 | h2
        · simp [h2] at h0 h'; rw [h0] at h'; cases h'
        · simp [Array.getElem?_eq_none h2] at h'
      have hjb : j ≠ b := fun e => by
        subst e
        rw [hob] at hoj
        cases hoj
        obtain ⟨e, he, hbe, heq⟩ := hbi
        exact nol _ heq (hall e he hbe)
      have hnot : ∀ e ∈ oj.after, Region.binds .any e = true → e.on ≠ i := fun e he hbe heq => nol _ heq (hall e he hbe)
      have h2 := wpOp_putIf hoj (hfree j oj hoj hji hjun hnot) (fun cs c => hsel i oi cs c hi) (fun cs c => hsel j oj cs c hoj) hQ hy h1
      have hfree' : ∀ k ok, ops[k]? = some ok → k ≠ i → (L.setIfInBounds j true).getD k true = false → (∀ e ∈ ok.after, Region.binds .any e = true → e.on ≠ i) → oi.apart ops ok = true := fun k ok hk hki hun hno => by
        refine hfree k ok hk hki ?_ hno
        by_cases hjk : j = k
        · subst hjk; exact hjun
        · rw [getD_set_ne true hjk] at hun; exact hun
      have hbj : (L.setIfInBounds j true).getD b false = false := by rw [getD_set_ne false hjb]; exact hb
      refine wpOp_mono (fun a' w' h3 => ?_) h2
      have hs1 : S1 w' := by
        have := h3.2.1
        rw [SJ.same hjb, SJ.same hib, SJ.before hb] at this
        exact this
      refine ⟨(SJ.before hbj).mpr hs1, ih (L.setIfInBounds j true) a' w' hbj hfree' (ready_mono hr (Ne.symm hji)) h3.1 hs1 ?_⟩
      rw [Array.setIfInBounds_comm _ _ hji]
      exact h3.2.2
/-- An operation that leaves the same whatever is written. -/
theorem J_first2 {i : Nat} {oi : Oper} {v : Value} (hi : ops[i]? = some oi) (hib : i ≠ b) (hsel : ∀ (j : Nat) (o : Oper) cs c, ops[j]? = some o → o.op ≠ .select cs c)
    (hQ : ∀ c a w, Q (.panic c) (a.put oi.dst v) w → Q (.panic c) a w) :
    ∀ (fuel : Nat) (L : Array Bool) (a : Act) (w : World),
      (∀ j oj, ops[j]? = some oj → j ≠ i → L.getD j true = false → (∀ e ∈ oj.after, Region.binds .any e = true → e.on ≠ i) → oi.apart ops oj = true) →
      i ∈ Region.ready .any ops L → YieldsIf P ops (fun w => S1 w ∨ S0 w) oi v a → SJ b S1 S0 L w →
      wpAnyJ P ops Q b S1 S0 fuel (L.setIfInBounds i true) (a.put oi.dst v) w → wpAnyJ P ops Q b S1 S0 (fuel + 1) L a w := by
  intro fuel
  induction fuel with
  | zero =>
    intro L a w _ hr hy hS H
    refine ⟨fun h => (by rw [h] at hr; cases hr), fun j hj => ?_⟩
    by_cases hji : j = i
    · subst hji; exact hy.wpOp hi hS.or ⟨(SJ.same hib).mpr hS, H⟩
    · have := ready_mono hj hji
      rw [H.1] at this
      cases this
  | succ fuel ih =>
    intro L a w hfree hr hy hS H
    refine ⟨fun h => (by rw [h] at hr; cases hr), fun j hj => ?_⟩
    by_cases hji : j = i
    · subst hji; exact hy.wpOp hi hS.or ⟨(SJ.same hib).mpr hS, H⟩
    · have h1 := H.2 j (ready_mono hj hji)
      obtain ⟨hjun, oj, hoj, hall⟩ := mem_ready.1 hj
      have hnot : ∀ e ∈ oj.after, Region.binds .any e = true → e.on ≠ i := fun e he hb heq => by
        have h1 := hall e he hb
        have h0 := (mem_ready.1 hr).1
        rw [heq] at h1
        rcases Nat.lt_or_ge i L.size with h' | h'
        · simp [h'] at h0 h1; rw [h0] at h1; cases h1
        · simp [Array.getElem?_eq_none h'] at h1
      have h2 := wpOp_putIf hoj (hfree j oj hoj hji hjun hnot) (fun cs c => hsel i oi cs c hi) (fun cs c => hsel j oj cs c hoj) hQ hy h1
      have hfree' : ∀ k ok, ops[k]? = some ok → k ≠ i → (L.setIfInBounds j true).getD k true = false → (∀ e ∈ ok.after, Region.binds .any e = true → e.on ≠ i) → oi.apart ops ok = true := fun k ok hk hki hun hno => by
        refine hfree k ok hk hki ?_ hno
        by_cases hjk : j = k
        · subst hjk; exact hjun
        · rw [getD_set_ne true hjk] at hun; exact hun
      refine wpOp_mono (fun a' w' h3 => ?_) h2
      have hs1 : SJ b S1 S0 (L.setIfInBounds j true) w' := by
        have := h3.2.1
        rw [Array.setIfInBounds_comm _ _ (Ne.symm hji), SJ.same hib] at this
        exact this
      refine ⟨hs1, ih (L.setIfInBounds j true) a' w' hfree' (ready_mono hr (Ne.symm hji)) h3.1 hs1 ?_⟩
      rw [Array.setIfInBounds_comm _ _ hji]
      exact h3.2.2
variable {N : Nat} {w : World} {env : Env} {o : Oper} {fuel : Nat} {L : Array Bool}
def GJ (P : Program) (ops : Array Oper) (Q : Exit → Act → World → Prop) (b : Nat) (S1 S0 : World → Prop) (N : Nat) (fuel : Nat) (L : Array Bool) (env : Env) (w : World) : Prop := ∀ a, Holds N a env → SJ b S1 S0 L w → wpAnyJ P ops Q b S1 S0 fuel L a w
theorem CG.heldJ {id : Nat} (b : Nat) (S1 S0 : World → World → Prop) (hb : Nat.blt b ops.size = true) (hm : P.follows .mixedOrders = true) (hS : ∀ v, S1 v v) (h : ∀ v, Below w.heap.size w v → GJ P ops Q b (S1 v) (S0 v) N ops.size (Array.replicate ops.size false) env v) : CG P (.region id ops true) Q N env w := by
  intro a ha
  refine wp_region_any hm (wpAny_of_J (b := b) (S1 := S1 w.drew) (S0 := S0 w.drew) _ _ _ _ ?_)
  refine h w.drew (below_drew (Below.refl _ _)) a ha ?_
  refine (SJ.before ?_).mpr (hS _)
  have : b < ops.size := by simpa [Nat.blt_eq] using hb
  simp [this]
theorem GJ.take1 {i n : Nat} {v : Value} {ob : Oper} (hi : ops[i]? = some o) (hs : Region.noSelect ops = true) (hf : Region.free .any ops L i = true) (hr : (Region.ready .any ops L).contains i = true) (hib : (i == b) = false) (hob : ops[b]? = some ob) (hbi : (ob.after.any fun e => Region.binds .any e && e.on == i) = true) (hLb : L.getD b false = false)
    (hQ : Calm Q) (hd : o.dst = some n) (hn : Nat.blt n N = true) (hw : want ops env o = some true) (hy : ∀ w', S1 w' → Runs P N env o w' v) (h : GJ P ops Q b S1 S0 N fuel (L.setIfInBounds i true) ((n, v) :: env) w) : GJ P ops Q b S1 S0 N (fuel + 1) L env w := by
  intro a ha hS
  have hib' : i ≠ b := by simpa using hib
  obtain ⟨e, he, hbe⟩ := Array.any_eq_true'.1 hbi
  simp only [Bool.and_eq_true, beq_iff_eq] at hbe
  have hS1 := (SJ.before hLb).mp hS
  refine J_first1 hi hib' hob ⟨e, he, hbe.1, hbe.2⟩ (Region.noSelect_spec hs) (fun c a w => hQ c a _ v w) fuel L a w hLb (Region.free_spec hi hf) (by simpa using hr) (.inl ⟨wanted_of ha hw, fun w' hw' => hy w' hw' a w' ha rfl⟩) hS1 ?_
  rw [hd]
  exact h _ (ha.put v (by simpa [Nat.blt_eq] using hn)) ((SJ.same hib').mpr hS)
theorem GJ.take2 {i n : Nat} {v : Value} (hi : ops[i]? = some o) (hs : Region.noSelect ops = true) (hf : Region.free .any ops L i = true) (hr : (Region.ready .any ops L).contains i = true) (hib : (i == b) = false)
    (hQ : Calm Q) (hd : o.dst = some n) (hn : Nat.blt n N = true) (hw : want ops env o = some true) (hy : ∀ w', (S1 w' ∨ S0 w') → Runs P N env o w' v) (h : GJ P ops Q b S1 S0 N fuel (L.setIfInBounds i true) ((n, v) :: env) w) : GJ P ops Q b S1 S0 N (fuel + 1) L env w := by
  intro a ha hS
  have hib' : i ≠ b := by simpa using hib
  refine J_first2 hi hib' (Region.noSelect_spec hs) (fun c a w => hQ c a _ v w) fuel L a w (Region.free_spec hi hf) (by simpa using hr) (.inl ⟨wanted_of ha hw, fun w' hw' => hy w' hw' a w' ha rfl⟩) hS ?_
  rw [hd]
  exact h _ (ha.put v (by simpa [Nat.blt_eq] using hn)) ((SJ.same hib').mpr hS)
theorem GJ.done (hr : Region.ready .any ops L = []) (h : QG Q .normal N env w) : GJ P ops Q b S1 S0 N fuel L env w := by
  intro a ha _
  cases fuel with
  | zero => exact ⟨hr, h a ha⟩
  | succ f => exact ⟨fun _ => h a ha, fun i hi => by rw [hr] at hi; cases hi⟩
/-- One of those that may come up is carried out. -/
def OJ (P : Program) (ops : Array Oper) (Q : Exit → Act → World → Prop) (b : Nat) (S1 S0 : World → Prop) (N : Nat) (fuel : Nat) (L : Array Bool) (env : Env) (w : World) (i : Nat) : Prop :=
  ∀ a, Holds N a env → wpOp P ops Q i (fun a' w' => SJ b S1 S0 (L.setIfInBounds i true) w' ∧ wpAnyJ P ops Q b S1 S0 fuel (L.setIfInBounds i true) a' w') a w
theorem OJ.st {i n : Nat} (ho : ops[i]? = some o) (hd : o.dst = some n) (hn : Nat.blt n N = true) (hw : want ops env o = some true) (h : ST P Q N env w o (fun v w1 => SJ b S1 S0 (L.setIfInBounds i true) w1 ∧ GJ P ops Q b S1 S0 N fuel (L.setIfInBounds i true) ((n, v) :: env) w1)) : OJ P ops Q b S1 S0 N fuel L env w i := by
  intro a ha
  refine wpOp_step ho fun K' hK => ?_
  rw [if_pos (wanted_of ha hw)]
  refine h a ha K' fun v w1 h1 => hK _ _ ⟨h1.1, ?_⟩
  rw [hd]
  exact h1.2 _ (ha.put v (by simpa [Nat.blt_eq] using hn)) h1.1
theorem OJ.sn {i : Nat} (ho : ops[i]? = some o) (hd : o.dst = none) (hw : want ops env o = some true) (h : ST P Q N env w o (fun v w1 => SJ b S1 S0 (L.setIfInBounds i true) w1 ∧ GJ P ops Q b S1 S0 N fuel (L.setIfInBounds i true) env w1)) : OJ P ops Q b S1 S0 N fuel L env w i := by
  intro a ha
  refine wpOp_step ho fun K' hK => ?_
  rw [if_pos (wanted_of ha hw)]
  refine h a ha K' fun v w1 h1 => hK _ _ ⟨h1.1, ?_⟩
  rw [hd]
  exact h1.2 _ ha h1.1
theorem GJ.one {i : Nat} (hr : Region.ready .any ops L = [i]) (h : OJ P ops Q b S1 S0 N fuel L env w i) : GJ P ops Q b S1 S0 N (fuel + 1) L env w := by
  intro a ha _
  refine ⟨fun h0 => (by rw [hr] at h0; cases h0), fun j hj => ?_⟩
  rw [hr, List.mem_singleton] at hj
  subst hj
  exact h a ha
theorem GJ.two {i j : Nat} (hr : Region.ready .any ops L = [i, j]) (h1 : OJ P ops Q b S1 S0 N fuel L env w i) (h2 : OJ P ops Q b S1 S0 N fuel L env w j) : GJ P ops Q b S1 S0 N (fuel + 1) L env w := by
  intro a ha _
  refine ⟨fun h0 => (by rw [hr] at h0; cases h0), fun k hk => ?_⟩
  rw [hr] at hk
  rcases List.mem_cons.mp hk with rfl | hk
  · exact h1 a ha
  · rw [List.mem_singleton] at hk
    subst hk
    exact h2 a ha
/-! ### Where ways meet -/
theorem CG.cut2 {c : Code} {γ δ : Type} (E : γ → δ → Env) (R : γ → δ → World → Prop) (h : CG P c (fun e a w' => e = .normal ∧ ∃ g d, Holds N a (E g d) ∧ R g d w') N env w) (k : ∀ g d w', R g d w' → QG Q .normal N (E g d) w') : CG P c Q N env w := by
  intro a ha
  refine wp_mono (h a ha) ?_
  rintro e a' w' ⟨rfl, g, d, hh, hr⟩
  exact k g d w' hr a' hh
theorem QG.meet2 {γ δ : Type} {E : γ → δ → Env} {R : γ → δ → World → Prop} (g : γ) (d : δ) (h0 : Sub (E g d) env) (hR : R g d w) : QG (fun e a w' => e = .normal ∧ ∃ g d, Holds N a (E g d) ∧ R g d w') .normal N env w := fun a ha => ⟨rfl, g, d, ha.sub h0, hR⟩
theorem CG.cut1 {c : Code} {γ : Type} (E : γ → Env) (R : γ → World → Prop) (h : CG P c (fun e a w' => e = .normal ∧ ∃ g, Holds N a (E g) ∧ R g w') N env w) (k : ∀ g w', R g w' → QG Q .normal N (E g) w') : CG P c Q N env w := by
  intro a ha
  refine wp_mono (h a ha) ?_
  rintro e a' w' ⟨rfl, g, hh, hr⟩
  exact k g w' hr a' hh
theorem QG.meet1 {γ : Type} {E : γ → Env} {R : γ → World → Prop} (g : γ) (h0 : Sub (E g) env) (hR : R g w) : QG (fun e a w' => e = .normal ∧ ∃ g, Holds N a (E g) ∧ R g w') .normal N env w := fun a ha => ⟨rfl, g, ha.sub h0, hR⟩
theorem calm_cut1 {γ : Type} {E : γ → Env} {R : γ → World → Prop} : Calm (fun e a w' => e = Exit.normal ∧ ∃ g, Holds N a (E g) ∧ R g w') := by
  intro c a d v w h
  exact nomatch h.1
theorem calm_cut2 {γ δ : Type} {E : γ → δ → Env} {R : γ → δ → World → Prop} : Calm (fun e a w' => e = Exit.normal ∧ ∃ g d, Holds N a (E g d) ∧ R g d w') := by
  intro c a d v w h
  exact nomatch h.1
theorem calm_cut {γ δ : Type} {E : γ → δ → Env} {R : γ → δ → World → Prop} : Calm (fun e a w' => e = Exit.normal ∧ ∃ g d, Holds N a (E g d) ∧ R g d w') := by
  intro c a d v w h
  exact nomatch h.1
/-! ### What a region leaves as it was -/
/-- The cells of these blocks are as they were. -/
def Keeps (B : Nat → Prop) (v W : World) : Prop := ∀ q u, B q.block → v.cell? q = some u → W.cell? q = some u
theorem Keeps.refl {B : Nat → Prop} (v : World) : Keeps B v v := fun _ _ _ h => h
theorem Keeps.below {B : Nat → Prop} {v W W' : World} (h : Keeps B v W) (l : Below W.heap.size W W') : Keeps B v W' := fun q u hB hq => pw_cell_below l (h q u hB hq)
theorem Keeps.grown {B : Nat → Prop} {v W W' : World} {row : Option Nat} (h : Keeps B v W) (l : W.grownBy W' row) (hn : ∀ k, row = some k → ¬ B k) : Keeps B v W' := fun q u hB hq => cell_grown l (h q u hB hq) (fun e => hn _ e.symm hB)
/-- append(v, ys...), and where the row lies behind it. -/
theorem ST.appendAt {α : Type} (d : Kd α) {w0 W : World} (base : Nat) {s x : Operand} {t e : TypeId} {z : Value} {bytes : Nat}
    (ho : o.op = .call { callee := .builtin .append, args := #[s, x], argTypes := #[t, t] })
    (ht : P.underlying t = some (.slice e)) (hinfo : (P.info? e).map (fun i => (i.zero, i.size, i.bytes)) = some (some z, d.sz, bytes)) (hz : z.cells.size = d.sz) (hs0 : 0 < d.sz) (hb0 : 0 < bytes)
    {v : Value} {xs ys : List α} {A : Option Addr} {m c : Nat} {K : Value → World → Prop} (hs : Ev env s v) (hx : Ev env x (.slice A m c))
    (HO : d.R e W base (fun _ => True) v xs) (HR : d.C W A m ys) (hKM : ∀ x cs, d.K W x cs → d.M W base (fun _ => False) x cs)
    (HB : Below base w0 W) (hbase : base ≤ W.heap.size) (hl : (xs.length + m) * bytes ≤ 140737488355328)
    (h : ∀ v1 w1, d.R e w1 base (fun _ => True) v1 (xs ++ ys) → Below base w0 w1 → W.grownBy w1 v.ownBlock → (v1.ownBlock = v.ownBlock ∨ ∃ k, v1.ownBlock = some k ∧ W.heap.size ≤ k) → K v1 w1) : ST P Q N env W o K := by
  intro a ha Kc hK
  have h0 : Region.wanted { o with guard := none } (yielded #[] a.tmps) = true := rfl
  have := Kd.R_append_rows_step (P := P) (ops := #[]) (o := { o with guard := none }) (a := a) (Q := Q) (Kc := Kc) d base h0 s x t e z bytes ho ht hinfo hz hs0 hb0 v xs ys A m c (fun _ => True) (fun _ => False) (ha.eval hs) (ha.eval hx) HO HR hKM (fun _ hk => hk.elim) (fun _ _ => trivial) HB hbase hl (fun v1 w1 h1 h2 h3 h4 => hK _ _ (h v1 w1 h1 h2 h3 h4))
  rw [if_pos h0] at this
  exact this
/-- A slice is written out: a row of ours, and that it is new. -/
theorem ST.litAt {α : Type} (d : Kd α) {w0 : World} (base : Nat) {t : TypeId} {m n : Nat} {xs : List (Nat × Operand)} {vs : List (Nat × Value)} {e : TypeId} {ys : List α} {inner : List Value} {K : Value → World → Prop} (hd : o.dst = some n) (ho : o.op = .buildSlice t m xs.toArray) (hx : EvP env xs vs)
    (hr : ∀ W, (Instr.buildSlice t m vs.toArray).run P W = .ok (.slice (some ⟨W.heap.size, 0, none⟩) ys.length ys.length) (W.alloc (.cells inner.toArray e))) (hrep : Reps (d.M w base (fun _ => False)) d.sz ys inner) (HB : Below base w0 w) (hbase : base ≤ w.heap.size) (hm : ys.length ≤ 9223372036854775807)
    (h : ∀ v1 w1, d.R e w1 base (fun _ => True) v1 ys → Below base w0 w1 → Below w.heap.size w w1 → (∃ k, v1.ownBlock = some k ∧ w.heap.size ≤ k) → K v1 w1) : ST P Q N env w o K := by
  intro a ha Kc hK
  have e1 := ha.evalP hx
  have hrun : (execOp a.eval o).run P w = .ok (.value (.slice (some ⟨w.heap.size, 0, none⟩) ys.length ys.length)) (w.alloc (.cells inner.toArray e)) := by
    have hr' := hr w
    generalize a.eval = ρ at e1 ⊢
    unfold execOp; rw [ho]
    simp only [List.map_toArray, e1]
    rw [Sem.run_bind, hr']; rfl
  have h0 : Region.wanted { o with guard := none } (yielded #[] a.tmps) = true := rfl
  have := Kd.R_lit_step (P := P) (ops := #[]) (o := { o with guard := none }) (a := a) (Q := Q) (W := w) (Kc := Kc) d (w0 := w0) base e h0 (N := n) hd (xs := ys) (inner := inner) (ok := fun _ => True) (okp := fun _ => False) hrun hrep (fun _ hk => hk.elim) trivial HB hbase hm
    (fun v1 w1 h1 h2 h3 h4 => hK _ _ (h v1 w1 h1 h2 (belowG h3) h4))
  rw [if_pos h0] at this
  exact this
theorem gb_row {w0 w1 : World} {row row' : Option Nat} (h : w0.grownBy w row) (k : w.grownBy w1 row') (hn : ∀ i, row' = some i → w0.heap.size ≤ i) : w0.grownBy w1 row :=
  ⟨k.os.trans h.os, k.tape.trans h.tape, k.output.trans h.output, Nat.le_trans h.size k.size, fun i hi hr => (k.block i (Nat.lt_of_lt_of_le hi h.size) (fun e => by have := hn i e.symm; omega)).trans (h.block i hi hr)⟩
/-- A slice of whole numbers is written out: its block. -/
theorem ST.litB {t : TypeId} {m : Nat} {xs : List (Nat × Operand)} {vs : List (Nat × Value)} {e : TypeId} {cs : Array Value} {K : Value → World → Prop} (ho : o.op = .buildSlice t m xs.toArray) (hx : EvP env xs vs)
    (hr : ∀ W, (Instr.buildSlice t m vs.toArray).run P W = .ok (.slice (some ⟨W.heap.size, 0, none⟩) m m) (W.alloc (.cells cs e (0, 0)))) (h : ∀ g w1, g = w.heap.size → w1.heap[g]? = some (.cells cs e (0, 0)) → Below w.heap.size w w1 → K (.slice (some ⟨g, 0, none⟩) m m) w1) : ST P Q N env w o K :=
  ST.lit ho hx hr (h _ _ rfl (blk_new w _) (below_alloc (Below.refl _ _) _))
/-- Cells in the middle of a block are written. -/
theorem ST.storeMid {ty : TypeId} {x y : Operand} {g off : Nat} {cells : List Value} {K : Value → World → Prop} (ho : o.op = .store ty x y) (hx : Ev env x (.pointer (some ⟨g, off, none⟩))) (hy : Ev env y (.agg cells.toArray)) (ht : w.there g off cells.length) (hi : (P.info? ty).map (·.size) = some cells.length) (h1 : cells.toArray.all (·.oneCell') = true)
    (h : K undef (w.setCells g off cells)) : ST P Q N env w o K := by
  intro a ha Kc hK
  exact wp_store_mid (P := P) ty x y ho g off cells.toArray (ha.eval hx) (ha.eval hy) (by simpa using ht) (by simpa using hi) h1 (hK undef _ (by simpa using h))
/-- A slice is written into one cell. -/
theorem ST.storeSl {ty : TypeId} {x y : Operand} {g i : Nat} {A : Option Addr} {n c : Nat} {cs cs' : List Value} {t : TypeId} {K : Value → World → Prop} (ho : o.op = .store ty x y) (hz : Sized P ty) (hz1 : P.cellsOf ty = 1) (hx : Ev env x (.pointer (some ⟨g, i, none⟩))) (hy : Ev env y (.slice A n c))
    (hb : w.heap[g]? = some (.cells cs.toArray t (0, 0))) (hi : Nat.blt i cs.length = true) (hcs : cs.set i (.slice A n c) = cs') (h : ∀ w1, w1.heap[g]? = some (.cells cs'.toArray t (0, 0)) → w.grownBy w1 (some g) → K undef w1) : ST P Q N env w o K := by
  intro a ha Kc hK
  have hi' : i < cs.length := by simpa [Nat.blt_eq] using hi
  have h1 : w.cell? ⟨g, i, none⟩ = some cs[i] := by rw [blk_cell hb]; simp [hi']
  have h2 : w.frozen? ⟨g, i, none⟩ = false := blk_frozen hb i
  have hr : (execOp a.eval o).run P w = .ok .skip (w.setCell ⟨g, i, none⟩ (.slice A n c)) := by
    unfold execOp; rw [ho]; simp only []; rw [ha.eval hx, ha.eval hy]
    obtain ⟨inf, q1, q2⟩ := hz
    simp [go_sem, run_sizeOf w q1, hz1, h1, h2]
  unfold Oper.wp
  rw [hr]
  refine hK undef _ (h _ ?_ (gb_set (World.grownBy.refl w _) (.inr rfl) _))
  rw [blk_set hb, ← hcs]
  simp
end
end Go.Proofs.Ytbajpjnloikpdaa.E
