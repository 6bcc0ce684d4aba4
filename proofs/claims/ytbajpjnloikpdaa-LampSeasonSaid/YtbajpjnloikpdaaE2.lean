/- The lexical order of a region that draws, checked quickly. -/
import Derived.Test.YtbajpjnloikpdaaE1
namespace Go.Proofs.Ytbajpjnloikpdaa.E
set_option linter.unusedVariables false
/-- What the check looks at of an operation: where it writes, what it looks at, what it waits for. -/
structure Inf where
  dst : Option Nat
  looks : List Nat
  edges : List Nat
def infOf (ops : Array Oper) (o : Oper) : Inf := ⟨o.dst, (o.looksAt ops), (o.after.toList.filter (Region.binds .any)).map (·.on)⟩
def apartI (x y : Inf) : Bool :=
  (match x.dst with
   | some d => !(y.looks.contains d) && y.dst != some d
   | none => true) &&
  (match y.dst with
   | some d => !(x.looks.contains d)
   | none => true)
def fast : Nat → List Inf → Bool
  | _, [] => true
  | k, x :: r => x.edges.all (fun e => decide (e < k)) && (r.all fun y => y.edges.contains k || apartI x y) && fast (k + 1) r
def Told (n k : Nat) (listed : Array Bool) : Prop := listed.size = n ∧ ∀ j b, j < n → listed.getD j b = decide (j < k)
theorem told_next {n k : Nat} {listed : Array Bool} (h : Told n k listed) (hk : k < n) : Told n (k + 1) (listed.setIfInBounds k true) := by
  refine ⟨by simp [h.1], fun j b hj => ?_⟩
  by_cases he : k = j
  · subst he
    rw [Array.getD_eq_getD_getElem?, Array.getElem?_setIfInBounds]
    simp [h.1, hj]
  · have h2 := h.2 j b hj
    rw [Array.getD_eq_getD_getElem?] at h2 ⊢
    rw [Array.getElem?_setIfInBounds, if_neg he, h2]
    by_cases hjk : j < k
    · simp [hjk]; omega
    · simp [hjk]; omega
theorem lexFrom_fast (l : List Oper) : ∀ (fuel k : Nat) (listed : Array Bool), k + fuel = l.length → Told l.length k listed → fast k ((l.map (infOf l.toArray)).drop k) = true → Region.lexFrom .any l.toArray fuel k listed = true
  | 0, k, listed, hk, ht, hf => by
    unfold Region.lexFrom
    rw [List.isEmpty_iff]
    unfold Region.ready
    rw [List.filter_eq_nil_iff]
    intro j hj
    have hjn : j < l.length := by simpa using hj
    have : listed.getD j true = true := by rw [ht.2 j true hjn]; simp; omega
    simp [this]
  | fuel + 1, k, listed, hk, ht, hf => by
    have hkn : k < l.length := by omega
    have hd : (l.map (infOf l.toArray)).drop k = infOf l.toArray (l[k]'hkn) :: (l.map (infOf l.toArray)).drop (k + 1) := by
      rw [List.drop_eq_getElem_cons (by simpa using hkn)]
      simp
    rw [hd] at hf
    unfold fast at hf
    simp only [Bool.and_eq_true] at hf
    obtain ⟨⟨h1, h2⟩, h3⟩ := hf
    have hget : l.toArray[k]? = some (l[k]'hkn) := by simp [hkn]
    unfold Region.lexFrom
    simp only [Bool.and_eq_true]
    refine ⟨⟨?_, ?_⟩, lexFrom_fast l fuel (k + 1) _ (by omega) (told_next ht hkn) h3⟩
    · rw [List.contains_iff_mem]
      unfold Region.ready
      rw [List.mem_filter]
      refine ⟨by simpa using hkn, ?_⟩
      have : listed.getD k true = false := by rw [ht.2 k true hkn]; simp
      rw [this, hget]
      simp only [Bool.not_false, Bool.true_and, Option.map_some, Option.getD_some]
      rw [Array.all_eq_true_iff_forall_mem]
      intro e he
      by_cases hb : Region.binds .any e = true
      · have hm : e.on ∈ (infOf l.toArray (l[k]'hkn)).edges := by
          unfold infOf
          simp only [List.mem_map, List.mem_filter]
          exact ⟨e, ⟨by simpa using he, hb⟩, rfl⟩
        have hlt : e.on < k := by
          have := (List.all_eq_true.mp h1) _ hm
          simpa using this
        have : listed.getD e.on false = true := by rw [ht.2 e.on false (by omega)]; simpa using hlt
        rw [this]
        simp
      · simp [hb]
    · unfold Region.free
      rw [hget]
      simp only [List.all_eq_true, List.mem_range]
      intro j hj
      have hjn : j < l.length := by simpa using hj
      by_cases hjk : j = k
      · simp [hjk]
      · by_cases hlt : j < k
        · have : listed.getD j true = true := by rw [ht.2 j true hjn]; simpa using hlt
          simp [this]
        · have hgj : l.toArray[j]? = some (l[j]'hjn) := by simp [hjn]
          rw [hgj]
          have hm : infOf l.toArray (l[j]'hjn) ∈ (l.map (infOf l.toArray)).drop (k + 1) := by
            rw [List.mem_drop_iff_getElem]
            refine ⟨j - (k + 1), by simp; omega, ?_⟩
            simp only [List.getElem_map]
            congr 1
            congr 1
            omega
          have h4 := (List.all_eq_true.mp h2) _ hm
          simp only [Bool.or_eq_true] at h4 ⊢
          rcases h4 with h5 | h5
          · right; left
            rw [List.contains_iff_mem] at h5
            unfold infOf at h5
            simp only [List.mem_map, List.mem_filter] at h5
            obtain ⟨e, ⟨he, hb⟩, ho⟩ := h5
            rw [Array.any_eq_true']
            exact ⟨e, by simpa using he, by simp [hb, ho]⟩
          · right; right
            exact h5
theorem lexB_fast {l : List Oper} {m : List Inf} (hm : l.map (infOf l.toArray) = m) (hs : Region.noSelect l.toArray = true) (hf : fast 0 m = true) : Region.lexB .any l.toArray = true := by
  unfold Region.lexB
  rw [hs, Bool.true_and]
  refine lexFrom_fast l _ 0 _ (by simp) ⟨by simp, fun j b hj => ?_⟩ (by simpa [hm] using hf)
  simp [hj]
/-- A region that draws and only reads, its order checked quickly. -/
theorem CG.quietF {P : Program} {Q : Exit → Act → World → Prop} {N : Nat} {w : World} {env : Env} {id : Nat} {l : List Oper} {m : List Inf} (hp : P.follows .mixedOrders = true) (hm : l.map (infOf l.toArray) = m) (hs : Region.noSelect l.toArray = true) (hf : fast 0 m = true) (h : GQ P l.toArray Q N w l env) : CG P (.region id l.toArray true) Q N env w :=
  CG.quiet hp (lexB_fast hm hs hf) h
end Go.Proofs.Ytbajpjnloikpdaa.E
