/- Texts of this claim, put together: E15, E16, A18, A19, A20, A21, A22, N13, A23, N14, A24. -/
import Derived.Test.YtmnjlnkfihklgaaG3
import Derived.MapKept
import Derived.Test.YtmnjlnkfihklgaaWEqStruct
import Derived.Test.YtmnjlnkfihklgaaWRepsOne
namespace Go.Proofs.Ytmnjlnkfihklgaa.E
open Go.RowKit Go.Proofs.YtmnjlnkfihklgaaW.PrintWords Go.Proofs.YtmnjlnkfihklgaaW.PrintMore
open Go.Proofs.Ytmnjlnkfihklgaa.T
set_option linter.unusedVariables false
set_option linter.unusedSimpArgs false
/-- How keys of a type are found. -/
structure KeyT {κ : Type} (P : Program) (k : TypeId) (ek : κ → Value) : Prop where
  inj : ∀ {x y : κ}, ek x = ek y → x = y
  check : ∀ (em : Bool) (x : κ) (W : World), (Instr.checkKey em 10000 k (ek x)).run P W = .ok () W
  find : ∀ (x : κ) (es : List MapEntry) (W : World), (∀ e ∈ es, ∃ y, e.key = ek y) →
    ((Instr.findKey k (ek x) es).run P W = .ok none W ∧ ∀ e ∈ es, e.key ≠ ek x) ∨ ∃ j e, (Instr.findKey k (ek x) es).run P W = .ok (some (j, e.val)) W ∧ es[j]? = some e ∧ e.key = ek x
  stays : ∀ (x : κ) (W : World), (Instr.keyThatStays (ek x) (ek x)).run P W = .ok (ek x) W
theorem findAsking_of {κ : Type} [DecidableEq κ] {P : Program} {k : TypeId} {ek : κ → Value} (inj : ∀ {x y : κ}, ek x = ek y → x = y) (eq : ∀ (x y : κ) (W : World), (Op.equal k (ek x) (ek y)).run P W = .ok (decide (x = y)) W) (x : κ) (W : World) : ∀ (es : List MapEntry) (i : Nat), (∀ e ∈ es, ∃ y, e.key = ek y) →
    ((Instr.findAsking k (ek x) es i).run P W = .ok none W ∧ ∀ e ∈ es, e.key ≠ ek x) ∨ ∃ j e, (Instr.findAsking k (ek x) es i).run P W = .ok (some (i + j, e.val)) W ∧ es[j]? = some e ∧ e.key = ek x
  | [], i, _ => .inl ⟨by simp [Instr.findAsking], by simp⟩
  | e :: es, i, h => by
    obtain ⟨y, hy⟩ := h e List.mem_cons_self
    unfold Instr.findAsking
    rw [Sem.run_bind, hy, eq x y W]
    by_cases q : x = y
    · subst q
      exact .inr ⟨0, e, by simp [Result.andThen], rfl, hy⟩
    · have q' : e.key ≠ ek x := fun z => q (inj (z.symm.trans hy))
      rcases findAsking_of (P := P) (k := k) inj eq x W es (i + 1) (fun e he => h e (List.mem_cons_of_mem _ he)) with ⟨h1, h2⟩ | ⟨j, e1, h1, h2, h3⟩
      · exact .inl ⟨by simp [q, Result.andThen, h1], fun e' he' => by
          rcases List.mem_cons.mp he' with rfl | he'
          · exact q'
          · exact h2 e' he'⟩
      · exact .inr ⟨j + 1, e1, by simp [q, Result.andThen, h1]; omega, by simpa using h2, h3⟩
theorem KeyT.of_equal {κ : Type} [DecidableEq κ] {P : Program} {k : TypeId} {ek : κ → Value} {d : TypeDesc} (hu : P.underlying k = some d) (inj : ∀ {x y : κ}, ek x = ek y → x = y) (eq : ∀ (x y : κ) (W : World), (Op.equal k (ek x) (ek y)).run P W = .ok (decide (x = y)) W)
    (now : ∀ x v, Instr.sameNow d (ek x) v = none) (check : ∀ (em : Bool) (x : κ) (W : World), (Instr.checkKey em 10000 k (ek x)).run P W = .ok () W) (same : ∀ x, Instr.sameBits 10000 (ek x) (ek x) = true) : KeyT P k ek := by
  refine ⟨inj, check, fun x es W hes => ?_, fun x W => by simp [Instr.keyThatStays, same x]⟩
  unfold Instr.findKey
  rw [Sem.run_bind, run_underlying hu]
  simp only [Result.andThen]
  cases es with
  | nil => exact .inl ⟨by simp [Instr.findNow], by simp⟩
  | cons e es =>
    simp only [Instr.findNow, now x]
    have := findAsking_of (P := P) (k := k) inj eq x W (e :: es) 0 hes
    simpa using this
theorem KeyT.int {P : Program} {k : TypeId} {q : IntKind} (hu : P.underlying k = some (.int q)) : KeyT P k (fun n : Int => Value.int q n) := by
  refine ⟨fun h => by injection h, fun em x W => MapKept.run_checkKey hu (by simp [MapKept.IsKey]) em 9999, fun x es W hes => ?_, fun x W => by simp [Instr.keyThatStays, Instr.sameBits]⟩
  rcases MapKept.findNow_spec (d := .int q) (k := .int q x) (by simp [MapKept.IsKey]) es 0 (fun e he => by
    obtain ⟨y, hy⟩ := hes e he
    rw [hy]
    simp [MapKept.IsKey]) with ⟨h1, h2⟩ | ⟨j, e, h1, h2, h3⟩
  · exact .inl ⟨MapKept.run_findKey hu h1, h2⟩
  · exact .inr ⟨j, e, MapKept.run_findKey hu (by simpa using h1), h2, h3⟩
section
variable {κ ν : Type} [DecidableEq κ]
def getL (l : List (κ × ν)) (x : κ) : Option ν := (l.find? (fun p => decide (p.1 = x))).map (·.2)
theorem getL_none {l : List (κ × ν)} {x : κ} (h : ∀ p ∈ l, p.1 ≠ x) : getL l x = none := by
  unfold getL
  rw [List.find?_eq_none.mpr (fun p hp => by simpa using h p hp)]
  rfl
theorem getL_at : ∀ {l : List (κ × ν)} {x : κ} {v : ν} {j : Nat}, (l.map (·.1)).Nodup → l[j]? = some (x, v) → getL l x = some v
  | [], _, _, _, _, h => by simp at h
  | p :: l, x, v, 0, hn, h => by
    simp at h
    subst h
    simp [getL]
  | p :: l, x, v, j + 1, hn, h => by
    rw [List.map_cons, List.nodup_cons] at hn
    have hm : (x, v) ∈ l := List.mem_of_getElem? (by simpa using h)
    have hne : p.1 ≠ x := fun q => hn.1 (List.mem_map.mpr ⟨_, hm, q.symm⟩)
    have := getL_at (j := j) hn.2 (by simpa using h)
    unfold getL at this ⊢
    rw [List.find?_cons_of_neg (by simpa using hne)]
    exact this
theorem getL_append {l : List (κ × ν)} {x y : κ} {v : ν} (h : ∀ p ∈ l, p.1 ≠ x) : getL (l ++ [(x, v)]) y = if y = x then some v else getL l y := by
  by_cases q : y = x
  · subst q
    rw [if_pos rfl]
    unfold getL
    rw [List.find?_append, List.find?_eq_none.mpr (fun p hp => by simpa using h p hp)]
    simp
  · rw [if_neg q]
    unfold getL
    rw [List.find?_append]
    have : ([(x, v)] : List (κ × ν)).find? (fun p => decide (p.1 = y)) = none := by simp [Ne.symm q]
    rw [this]
    simp
theorem getL_set : ∀ {l : List (κ × ν)} {j : Nat} {x y : κ} {u v : ν}, (l.map (·.1)).Nodup → l[j]? = some (x, u) → getL (l.set j (x, v)) y = if y = x then some v else getL l y
  | [], _, _, _, _, _, _, h => by simp at h
  | p :: l, 0, x, y, u, v, hn, h => by
    simp at h
    subst h
    simp only [List.set_cons_zero]
    unfold getL
    by_cases q : y = x
    · subst q
      simp
    · rw [if_neg q, List.find?_cons_of_neg (by simpa using Ne.symm q), List.find?_cons_of_neg (by simpa using Ne.symm q)]
  | p :: l, j + 1, x, y, u, v, hn, h => by
    rw [List.map_cons, List.nodup_cons] at hn
    have h' : l[j]? = some (x, u) := by simpa using h
    have hne : p.1 ≠ x := fun q => hn.1 (List.mem_map.mpr ⟨_, List.mem_of_getElem? h', q.symm⟩)
    have ih := getL_set (y := y) (v := v) hn.2 h'
    simp only [List.set_cons_succ]
    unfold getL at ih ⊢
    by_cases q : p.1 = y
    · subst q
      rw [List.find?_cons_of_pos (by simp), List.find?_cons_of_pos (by simp), if_neg hne]
    · rw [List.find?_cons_of_neg (by simpa using q), List.find?_cons_of_neg (by simpa using q)]
      exact ih
def upd (f : κ → Option ν) (x : κ) (v : ν) (y : κ) : Option ν := if y = x then some v else f y
/-- The entries of a map, and what it has at each key. -/
structure MfE (ek : κ → Value) (ev : ν → Value) (es : Array MapEntry) (clock : Nat) (l : List (κ × ν)) (f : κ → Option ν) : Prop where
  is : es.toList.map (fun e => (e.key, e.val)) = l.map (fun p => (ek p.1, ev p.2))
  lt : ∀ e ∈ es.toList, e.born < clock
  nb : (es.toList.map (·.born)).Nodup
  nd : (l.map (·.1)).Nodup
  get : ∀ x, getL l x = f x
/-- A map in memory. -/
def Mf (ek : κ → Value) (ev : ν → Value) (w : World) (g : Nat) (f : κ → Option ν) : Prop := ∃ es clock l, w.heap[g]? = some (.map es clock) ∧ MfE ek ev es clock l f
/-- .. and the entry of a key is the one that was made at a time. -/
def MfS (ek : κ → Value) (ev : ν → Value) (w : World) (g : Nat) (f : κ → Option ν) (s : Int) (x : κ) : Prop := ∃ es clock l, w.heap[g]? = some (.map es clock) ∧ MfE ek ev es clock l f ∧ ∃ (j : Nat) (e : MapEntry), es.toList[j]? = some e ∧ e.key = ek x ∧ (e.born : Int) = s
variable {ek : κ → Value} {ev : ν → Value} {P : Program} {k : TypeId} {w w' : World} {g : Nat} {f : κ → Option ν}
theorem Mf.heap (h : Mf ek ev w g f) (e : w'.heap = w.heap) : Mf ek ev w' g f := by unfold Mf at h ⊢; rw [e]; exact h
theorem Mf.grown {row : Option Nat} (h : Mf ek ev w g f) (k : w.grownBy w' row) (hn : some g ≠ row) : Mf ek ev w' g f := by
  obtain ⟨es, clock, l, hb, hE⟩ := h
  exact ⟨es, clock, l, (k.block g (Array.getElem?_eq_some_iff.1 hb).1 hn).trans hb, hE⟩
theorem Mf.below (h : Mf ek ev w g f) (k : Below w.heap.size w w') : Mf ek ev w' g f := by
  obtain ⟨es, clock, l, hb, hE⟩ := h
  exact ⟨es, clock, l, (k.block g (Array.getElem?_eq_some_iff.1 hb).1).trans hb, hE⟩
theorem Mf.lt (h : Mf ek ev w g f) : g < w.heap.size := by
  obtain ⟨es, clock, l, hb, hE⟩ := h
  exact (Array.getElem?_eq_some_iff.1 hb).1
theorem Mf.congr {f' : κ → Option ν} (h : Mf ek ev w g f) (e : ∀ x, f x = f' x) : Mf ek ev w g f' := by
  obtain ⟨es, clock, l, hb, hE⟩ := h
  exact ⟨es, clock, l, hb, hE.is, hE.lt, hE.nb, hE.nd, fun x => (hE.get x).trans (e x)⟩
theorem Mf.made (w : World) : Mf ek ev (w.alloc (.map #[] 0)) w.heap.size (fun _ => none) := ⟨#[], 0, [], (MapKept.heap_alloc w _).1, by simp, by simp, by simp, by simp, fun x => by simp [getL]⟩
theorem MfE.keys {es : Array MapEntry} {clock : Nat} {l : List (κ × ν)} (h : MfE ek ev es clock l f) : ∀ e ∈ es.toList, ∃ y, e.key = ek y := fun e he => by
  have : (e.key, e.val) ∈ l.map (fun p => (ek p.1, ev p.2)) := by rw [← h.is]; exact List.mem_map.mpr ⟨e, he, rfl⟩
  obtain ⟨p, hp, q⟩ := List.mem_map.mp this
  exact ⟨p.1, by injection q with q1 q2; exact q1.symm⟩
theorem MfE.at_ {es : Array MapEntry} {clock : Nat} {l : List (κ × ν)} (h : MfE ek ev es clock l f) (K : KeyT P k ek) {j : Nat} {e : MapEntry} {x : κ} (hj : es.toList[j]? = some e) (hk : e.key = ek x) : ∃ v, l[j]? = some (x, v) ∧ f x = some v ∧ e.val = ev v := by
  have h1 : (es.toList.map (fun e => (e.key, e.val)))[j]? = some (e.key, e.val) := by rw [List.getElem?_map, hj]; rfl
  rw [h.is, List.getElem?_map] at h1
  obtain ⟨p, hp, q⟩ := Option.map_eq_some_iff.mp h1
  injection q with q1 q2
  have : p.1 = x := K.inj (q1.trans hk)
  obtain ⟨p1, p2⟩ := p
  simp only at this q2
  subst this
  exact ⟨p2, hp, by rw [← h.get]; exact getL_at h.nd hp, q2.symm⟩
theorem MfE.no {es : Array MapEntry} {clock : Nat} {l : List (κ × ν)} (h : MfE ek ev es clock l f) {x : κ} (hn : ∀ e ∈ es.toList, e.key ≠ ek x) : (∀ p ∈ l, p.1 ≠ x) ∧ f x = none := by
  have h1 : ∀ p ∈ l, p.1 ≠ x := fun p hp q => by
    have : (ek p.1, ev p.2) ∈ es.toList.map (fun e => (e.key, e.val)) := by rw [h.is]; exact List.mem_map.mpr ⟨p, hp, rfl⟩
    obtain ⟨e, he, q2⟩ := List.mem_map.mp this
    injection q2 with q3 q4
    exact hn e he (by rw [q3, q])
  exact ⟨h1, by rw [← h.get]; exact getL_none h1⟩
theorem MfE.push {es : Array MapEntry} {clock : Nat} {l : List (κ × ν)} (h : MfE ek ev es clock l f) {x : κ} (hn : ∀ p ∈ l, p.1 ≠ x) (v : ν) : MfE ek ev (es.push { key := ek x, val := ev v, born := clock }) (clock + 1) (l ++ [(x, v)]) (upd f x v) := by
  refine ⟨by simp [h.is], fun e he => ?_, ?_, ?_, fun y => ?_⟩
  · rw [Array.toList_push, List.mem_append] at he
    rcases he with he | he
    · have := h.lt e he; omega
    · simp at he; subst he; simp
  · rw [Array.toList_push, List.map_append]
    refine List.nodup_append.mpr ⟨h.nb, by simp, fun a ha b hb => ?_⟩
    obtain ⟨e, he, rfl⟩ := List.mem_map.mp ha
    simp at hb
    have := h.lt e he
    omega
  · rw [List.map_append]
    refine List.nodup_append.mpr ⟨h.nd, by simp, fun a ha b hb => ?_⟩
    obtain ⟨p, hp, rfl⟩ := List.mem_map.mp ha
    simp at hb
    subst hb
    exact hn p hp
  · rw [getL_append hn]
    unfold upd
    rw [h.get]
theorem modify_list (es : Array MapEntry) (j : Nat) (F : MapEntry → MapEntry) {e : MapEntry} (hj : es.toList[j]? = some e) : (es.modify j F).toList = es.toList.set j (F e) := by
  have hlt := (List.getElem?_eq_some_iff.1 hj).1
  have he := (List.getElem?_eq_some_iff.1 hj).2
  rw [Array.toList_modify]
  apply List.ext_getElem
  · simp
  · intro i h1 h2
    rw [List.getElem_modify, List.getElem_set]
    by_cases q : j = i
    · subst q
      simp [he]
    · simp [q]
theorem set_same {α : Type} {l : List α} {j : Nat} {x : α} (h : l[j]? = some x) : l.set j x = l := by
  apply List.ext_getElem?
  intro i
  by_cases q : j = i
  · subst q
    rw [List.getElem?_set_self (List.getElem?_eq_some_iff.1 h).1, h]
  · rw [List.getElem?_set_ne q]
theorem MfE.put {es : Array MapEntry} {clock : Nat} {l : List (κ × ν)} (h : MfE ek ev es clock l f) (K : KeyT P k ek) {j : Nat} {e : MapEntry} {x : κ} (hj : es.toList[j]? = some e) (hk : e.key = ek x) (v : ν) (F : MapEntry → MapEntry) (hF : F e = { e with val := ev v }) :
    MfE ek ev (es.modify j F) clock (l.set j (x, v)) (upd f x v) := by
  obtain ⟨u, h1, h2, h3⟩ := h.at_ K hj hk
  have hl := modify_list es j F hj
  rw [hF] at hl
  have hb : (es.toList.set j { e with val := ev v }).map (·.born) = es.toList.map (·.born) := by
    rw [List.map_set]
    exact set_same (by rw [List.getElem?_map, hj]; rfl)
  refine ⟨?_, fun e' he' => ?_, ?_, ?_, fun y => ?_⟩
  · rw [hl, List.map_set, h.is, List.map_set, hk]
  · have hm : e'.born ∈ (es.toList.set j { e with val := ev v }).map (·.born) := by rw [← hl]; exact List.mem_map.mpr ⟨e', he', rfl⟩
    rw [hb] at hm
    obtain ⟨e2, he2, q⟩ := List.mem_map.mp hm
    rw [← q]
    exact h.lt e2 he2
  · rw [hl, hb]
    exact h.nb
  · rw [List.map_set, set_same (by rw [List.getElem?_map, h1]; rfl)]
    exact h.nd
  · rw [getL_set h.nd h1]
    unfold upd
    rw [h.get]
theorem set_block {o o' : Obj} (h : w.heap[g]? = some o) : ({ w with heap := w.heap.setIfInBounds g o' } : World).heap[g]? = some o' ∧ w.grownBy { w with heap := w.heap.setIfInBounds g o' } (some g) := by
  obtain ⟨h1, h2⟩ := MapKept.heap_set (o' := o') h
  refine ⟨h1, rfl, rfl, rfl, by simp, fun k hk hne => ?_⟩
  exact h2 k (fun e => hne (by rw [e]))
/-- m[k] is read. -/
theorem Mf.lookup {t e : TypeId} {z : Value} (M : Mf ek ev w g f) (K : KeyT P k ek) (ht : P.underlying t = some (.map k e)) (hz : (zeroValue e).run P w = .ok z w) (x : κ) (c : Bool) :
    (Instr.lookup t (.map (some g)) (ek x) c).run P w = .ok (if c then .tuple #[((f x).map ev).getD z, .bool (f x).isSome] else ((f x).map ev).getD z) w := by
  obtain ⟨es, clock, l, hb, hE⟩ := M
  have hg := MapKept.run_getObj_map (P := P) hb
  rcases K.find x es.toList w hE.keys with ⟨h1, h2⟩ | ⟨j, e1, h1, h2, h3⟩
  · rw [(hE.no h2).2]
    simp [Instr.lookup, Sem.run_bind, run_underlying ht, hg, K.check, h1, hz, Result.andThen]
  · obtain ⟨v, q1, q2, q3⟩ := hE.at_ K h2 h3
    rw [q2]
    simp [Instr.lookup, Sem.run_bind, run_underlying ht, hg, K.check, h1, q3, Result.andThen]
/-- m[k] op= .., the first part. -/
theorem Mf.entry {t e : TypeId} {z : ν} (M : Mf ek ev w g f) (K : KeyT P k ek) (ht : P.underlying t = some (.map k e)) (hz : ∀ W, (zeroValue e).run P W = .ok (ev z) W) (x : κ) :
    ∃ w1 s, (Instr.mapEntry t (.map (some g)) (ek x)).run P w = .ok (.tuple #[ev ((f x).getD z), .int .i64 s]) w1 ∧ MfS ek ev w1 g (upd f x ((f x).getD z)) s x ∧ w.grownBy w1 (some g) := by
  obtain ⟨es, clock, l, hb, hE⟩ := M
  have hg := MapKept.run_getObj_map (P := P) hb
  rcases K.find x es.toList w hE.keys with ⟨h1, h2⟩ | ⟨j, e1, h1, h2, h3⟩
  · obtain ⟨q1, q2⟩ := hE.no h2
    obtain ⟨s1, s2⟩ := set_block (w := w) (g := g) (o' := .map (es.push { key := ek x, val := ev z, born := clock }) (clock + 1)) hb
    refine ⟨_, (clock : Int), ?_, ⟨_, _, _, s1, by rw [q2]; exact hE.push q1 z, es.size, { key := ek x, val := ev z, born := clock }, by simp, rfl, rfl⟩, s2⟩
    rw [q2]
    simp [Instr.mapEntry, Sem.run_bind, run_underlying ht, hg, K.check, h1, hz, Result.andThen, MapKept.run_setObj_map _ hb, goInt]
  · obtain ⟨v, q1, q2, q3⟩ := hE.at_ K h2 h3
    have h2' : es[j]? = some e1 := by simpa using h2
    obtain ⟨s1, s2⟩ := set_block (w := w) (g := g) (o' := .map (es.modify j fun e => { e with key := ek x }) clock) hb
    have hp := hE.put K h2 h3 v (fun e => { e with key := ek x }) (by rw [← h3, ← q3])
    refine ⟨_, (e1.born : Int), ?_, ⟨_, _, _, s1, by rw [q2]; exact hp, j, e1, ?_, h3, rfl⟩, s2⟩
    · rw [q2]
      have hst := K.stays x w
      simp [Instr.mapEntry, Sem.run_bind, run_underlying ht, hg, K.check, h1, Result.andThen, MapKept.run_setObj_map _ hb, goInt, h2', h3, hst, q3]
    · rw [modify_list es j _ h2, List.getElem?_set_self (List.getElem?_eq_some_iff.1 h2).1, ← h3]
theorem findIdx_born {es : Array MapEntry} (hn : (es.toList.map (·.born)).Nodup) {j : Nat} {e : MapEntry} (hj : es.toList[j]? = some e) : es.findIdx? (fun x => (x.born : Int) == (e.born : Int)) = some j := by
  have hlt := (List.getElem?_eq_some_iff.1 hj).1
  have he := (List.getElem?_eq_some_iff.1 hj).2
  rw [Array.findIdx?_eq_some_iff_getElem]
  refine ⟨by simpa using hlt, by simp at he; simp [he], fun i hi => ?_⟩
  have h1 : ¬ es.toList[i].born = es.toList[j].born := fun q => by
    have := (List.pairwise_iff_getElem.mp hn) i j (by simp; simp at hlt; omega) (by simpa using hlt) hi
    apply this
    simpa using q
  rw [he] at h1
  simpa using fun q => h1 (by exact_mod_cast q)
/-- .. and its second part. -/
theorem MfS.store {t : TypeId} {s : Int} {x : κ} (M : MfS ek ev w g f s x) (K : KeyT P k ek) (v : ν) :
    ∃ w1, (Instr.entryStore t (.map (some g)) (.int .i64 s) (ev v)).run P w = .ok () w1 ∧ Mf ek ev w1 g (upd f x v) ∧ w.grownBy w1 (some g) := by
  obtain ⟨es, clock, l, hb, hE, j, e, hj, hk, rfl⟩ := M
  have hg := MapKept.run_getObj_map (P := P) hb
  obtain ⟨s1, s2⟩ := set_block (w := w) (g := g) (o' := .map (es.modify j fun e => { e with val := ev v }) clock) hb
  refine ⟨_, ?_, ⟨_, _, _, s1, hE.put K hj hk v _ rfl⟩, s2⟩
  simp [Instr.entryStore, Sem.run_bind, hg, asInt, asIntOf, Result.andThen, findIdx_born hE.nb hj, MapKept.run_setObj_map _ hb]
end
end Go.Proofs.Ytmnjlnkfihklgaa.E
namespace Go.Proofs.Ytmnjlnkfihklgaa.E
open Go.RowKit Go.Proofs.YtmnjlnkfihklgaaW.PrintWords Go.Proofs.YtmnjlnkfihklgaaW.PrintMore
open Go.Proofs.Ytmnjlnkfihklgaa.T
set_option linter.unusedVariables false
set_option linter.unusedSimpArgs false
section
variable {κ ν : Type} [DecidableEq κ] {ek : κ → Value} {ev : ν → Value} {P : Program} {k : TypeId} {w w' : World} {g : Nat}
/-- A map that is asked with a zero for what it does not have. -/
def Mz (ek : κ → Value) (ev : ν → Value) (z : ν) (w : World) (g : Nat) (F : κ → ν) : Prop := ∃ f, Mf ek ev w g f ∧ ∀ x, F x = (f x).getD z
/-- .. and the entry of a key is the one that was made at a time. -/
def MzS (ek : κ → Value) (ev : ν → Value) (z : ν) (w : World) (g : Nat) (F : κ → ν) (s : Int) (x : κ) : Prop := ∃ f, MfS ek ev w g f s x ∧ ∀ x, F x = (f x).getD z
def updZ (F : κ → ν) (x : κ) (v : ν) (y : κ) : ν := if y = x then v else F y
theorem updZ_get {f : κ → Option ν} {F : κ → ν} {z : ν} (h : ∀ x, F x = (f x).getD z) (x : κ) (v : ν) (y : κ) : updZ F x v y = (upd f x v y).getD z := by
  unfold updZ upd
  split
  · rfl
  · exact h y
variable {z : ν} {F : κ → ν}
theorem Mz.heap (h : Mz ek ev z w g F) (e : w'.heap = w.heap) : Mz ek ev z w' g F := by obtain ⟨f, h1, h2⟩ := h; exact ⟨f, h1.heap e, h2⟩
theorem Mz.grown {row : Option Nat} (h : Mz ek ev z w g F) (k : w.grownBy w' row) (hn : some g ≠ row) : Mz ek ev z w' g F := by obtain ⟨f, h1, h2⟩ := h; exact ⟨f, h1.grown k hn, h2⟩
theorem Mz.below (h : Mz ek ev z w g F) (k : Below w.heap.size w w') : Mz ek ev z w' g F := by obtain ⟨f, h1, h2⟩ := h; exact ⟨f, h1.below k, h2⟩
theorem Mz.lt (h : Mz ek ev z w g F) : g < w.heap.size := by obtain ⟨f, h1, h2⟩ := h; exact h1.lt
theorem Mz.congr {F' : κ → ν} (h : Mz ek ev z w g F) (e : ∀ x, F x = F' x) : Mz ek ev z w g F' := by obtain ⟨f, h1, h2⟩ := h; exact ⟨f, h1, fun x => (e x).symm.trans (h2 x)⟩
theorem MzS.mz {s : Int} {x : κ} (h : MzS ek ev z w g F s x) : Mz ek ev z w g F := by
  obtain ⟨f, ⟨es, clock, l, h1, h2, _⟩, h3⟩ := h
  exact ⟨f, ⟨es, clock, l, h1, h2⟩, h3⟩
theorem MzS.heap {s : Int} {x : κ} (h : MzS ek ev z w g F s x) (e : w'.heap = w.heap) : MzS ek ev z w' g F s x := by
  obtain ⟨f, h1, h2⟩ := h
  refine ⟨f, ?_, h2⟩
  unfold MfS at h1 ⊢
  rw [e]
  exact h1
variable {N : Nat} {env : Env} {o : Oper} {Q : Exit → Act → World → Prop} {K : Value → World → Prop}
theorem Runs.lookupF {t e : TypeId} {m y : Operand} {f : κ → Option ν} {c : Bool} {zv v : Value} (ho : o.op = .lookup t m y c) (hm : Ev env m (.map (some g))) (KT : KeyT P k ek) {x : κ} (hx : Ev env y (ek x)) (ht : P.underlying t = some (.map k e)) (hz : ∀ W, (zeroValue e).run P W = .ok zv W) (M : Mf ek ev w g f)
    (hv : (if c then Value.tuple #[((f x).map ev).getD zv, .bool (f x).isSome] else ((f x).map ev).getD zv) = v) : Runs P N env o w v := fun a w' ha hw => by
  have h := (M.heap hw).lookup KT ht (hz w') x c
  rw [hv] at h
  have e1 := ha.eval hm
  have e2 := ha.eval hx
  generalize a.eval = ρ at e1 e2 ⊢
  unfold execOp; rw [ho]; simp only []; rw [e1, e2]
  simp [go_sem, h]
theorem Runs.lookupZ {t e : TypeId} {m y : Operand} (ho : o.op = .lookup t m y false) (hm : Ev env m (.map (some g))) (KT : KeyT P k ek) {x : κ} (hx : Ev env y (ek x)) (ht : P.underlying t = some (.map k e)) (hz : ∀ W, (zeroValue e).run P W = .ok (ev z) W) (M : Mz ek ev z w g F) : Runs P N env o w (ev (F x)) := by
  obtain ⟨f, h1, h2⟩ := M
  refine Runs.lookupF ho hm KT hx ht hz h1 ?_
  rw [h2]
  simp only [Bool.false_eq_true, if_false]
  cases f x <;> rfl
theorem ST.makeMap {t : TypeId} (ek : κ → Value) (ev : ν → Value) (ho : o.op = .makeMap t none) (h : ∀ g w1, g = w.heap.size → Mf ek ev w1 g (fun _ => none) → Below w.heap.size w w1 → K (.map (some g)) w1) : ST P Q N env w o K := by
  refine ST.ev (v := .map (some w.heap.size)) (w1 := w.alloc (.map #[] 0)) (fun a ha => ?_) (h _ _ rfl (Mf.made w) (below_alloc (Below.refl _ _) _))
  unfold execOp; rw [ho]
  rfl
theorem Mf.mz {f : κ → Option ν} (h : Mf ek ev w g f) (z : ν) : Mz ek ev z w g (fun x => (f x).getD z) := ⟨f, h, fun _ => rfl⟩
theorem ST.mapEntry {t e : TypeId} {m y : Operand} (ho : o.op = .mapEntry t m y) (hm : Ev env m (.map (some g))) (KT : KeyT P k ek) (x : κ) (hx : Ev env y (ek x)) (ht : P.underlying t = some (.map k e)) (hz : ∀ W, (zeroValue e).run P W = .ok (ev z) W) (M : Mz ek ev z w g F)
    (h : ∀ w1 s, MzS ek ev z w1 g F s x → w.grownBy w1 (some g) → K (.tuple #[ev (F x), .int .i64 s]) w1) : ST P Q N env w o K := by
  obtain ⟨f, h1, h2⟩ := M
  obtain ⟨w1, s, hr, hM, hg⟩ := h1.entry KT ht hz x
  refine ST.ev (v := .tuple #[ev (F x), .int .i64 s]) (w1 := w1) (fun a ha => ?_) (h w1 s ⟨_, hM, fun y => ?_⟩ hg)
  · have e1 := ha.eval hm
    have e2 := ha.eval hx
    generalize a.eval = ρ at e1 e2 ⊢
    unfold execOp; rw [ho]; simp only []; rw [e1, e2, h2]
    simp [go_sem, hr]
  · rw [h2]
    unfold upd
    by_cases q : y = x
    · subst q; simp
    · rw [if_neg q]
theorem ST.entryStore {t : TypeId} {m s y : Operand} {n : Int} {x : κ} {v : ν} (ho : o.op = .entryStore t m s y) (hm : Ev env m (.map (some g))) (hs : Ev env s (.int .i64 n)) (hy : Ev env y (ev v)) (KT : KeyT P k ek) (M : MzS ek ev z w g F n x)
    (h : ∀ w1, Mz ek ev z w1 g (updZ F x v) → w.grownBy w1 (some g) → K undef w1) : ST P Q N env w o K := by
  obtain ⟨f, h1, h2⟩ := M
  obtain ⟨w1, hr, hM, hg⟩ := h1.store (t := t) KT v
  intro a ha Kc hK
  have e1 := ha.eval hm
  have e2 := ha.eval hs
  have e3 := ha.eval hy
  have : (execOp a.eval o).run P w = .ok .skip w1 := by
    generalize a.eval = ρ at e1 e2 e3 ⊢
    unfold execOp; rw [ho]; simp only []; rw [e1, e2, e3]
    simp [go_sem, hr]
  unfold Oper.wp
  rw [this]
  exact hK _ _ (h w1 ⟨_, hM, updZ_get h2 x v⟩ hg)
end
end Go.Proofs.Ytmnjlnkfihklgaa.E
namespace Go.Proofs.Ytmnjlnkfihklgaa.T
open Go.RowKit Go.Proofs.YtmnjlnkfihklgaaW.PrintWords Go.Proofs.YtmnjlnkfihklgaaW.PrintMore
open Go.Proofs.Ytmnjlnkfihklgaa.P
set_option linter.unusedVariables false
set_option linter.unusedSimpArgs false

/-- A move that is right by itself. -/
def IsMv (qs : List S45) (T : Int) (x : S35) : Prop := inR x.f1 0 (qs.length - 1) ∧ inR x.f0 0 T ∧ 1 ≤ x.f2 ∧ x.f0 + (qs.getD x.f1.toNat P.z45).f3 ≤ T ∧ x.f2 ≤ (qs.getD x.f1.toNat P.z45).f2
instance (qs : List S45) (T : Int) (x : S35) : Decidable (IsMv qs T x) := by unfold IsMv; infer_instance
set_option maxRecDepth 100000 in
set_option maxHeartbeats 8000000 in

theorem isMove_calls (ps : List Int) (qs : List S45) (A B : Option Addr) (c d : Nat) (T : Nat) (x : S35) (r : Bool) (hok : HOk ps qs) (hb : r = true ↔ IsMv qs T x) (w : World) (hQ : Kd.C k45 w B qs.length qs) (hT : T ≤ 60) :
    Calls Try.prog 46 #[hv ps qs A B c d, .int .i64 (T : Int), .agg #[.int .i64 x.f0, .int .i64 x.f1, .int .i64 x.f2]] w fun e w' => e = .returned (.bool r) ∧ Below w.heap.size w w' := by
  have hu3 := Try.underlying3
  have hu23 := Try.underlying23
  have hu25 := Try.underlying25
  have hu35 := Try.underlying35
  have hu45 := Try.underlying45
  obtain ⟨z3, o3⟩ := info_some info3s (by decide)
  obtain ⟨z23, o23⟩ := info_some info23s (by decide)
  obtain ⟨z45, o45⟩ := info_some info45s (by decide)
  have hq12 := hok.q12
  refine E.enter (N := 51) Try.func46 rfl Try.ntmps46 (args := [hv ps qs A B c d, .int .i64 (T : Int), .agg #[.int .i64 x.f0, .int .i64 x.f1, .int .i64 x.f2]]) (by simp) ?_
  have L := Below.refl w.heap.size w
  refine E.CG.seq ?_
  refine E.CG.list ?_
  refine E.GL.st rfl rfl rfl (E.ST.box rfl rfl fun g3 w3 e3 b3 l3 => ?_)
  have h3_L : w.heap.size ≤ g3 := by rw [e3]; exact L.size
  replace L := below_step L l3
  refine E.GL.st rfl rfl rfl (E.ST.box rfl rfl fun g5 w5 e5 b5 l5 => ?_)
  have h5_L : w.heap.size ≤ g5 := by rw [e5]; exact L.size
  have n5_b3 : g3 ≠ g5 := by have := blk_lt b3; omega
  replace b3 := blk_below b3 l5
  replace L := below_step L l5
  refine E.GL.run rfl rfl rfl (E.Runs.assign rfl rfl) ?_
  refine E.GL.done ?_
  refine E.QG.code ?_
  refine E.CG.seq ?_
  refine E.CG.heldH (none) (by kernel_rfl) fun v1 lD hh => ?_
  replace b3 := blk_below b3 lD
  replace b5 := blk_below b5 lD
  replace L := below_step L lD
  clear lD
  have s_b3 := b3
  have s_b5 := b5
  have s_L := L
  refine E.GH.take (i := 0) rfl (by kernel_rfl) (by kernel_rfl) (by kernel_rfl) (by intro c a d v w h; cases d <;> exact h) rfl rfl rfl (fun w' hS => (E.Runs.fieldAddr rfl rfl hu35 rfl (by assumption) rfl)) ?_
  refine E.GH.take (i := 1) rfl (by kernel_rfl) (by kernel_rfl) (by kernel_rfl) (by intro c a d v w h; cases d <;> exact h) rfl rfl rfl (fun w' hS => (E.Runs.load rfl rfl hu3 (by first | exact E.keeps hS (E.blkc (by assumption) rfl) (by first | exact E.nen | exact E.nes (by assumption) | exact E.nes (Ne.symm (by assumption))) | exact pw_cell_below (below_step s_L (E.belowG hS)) (by assumption)))) ?_
  refine E.GH.take (i := 2) rfl (by kernel_rfl) (by kernel_rfl) (by kernel_rfl) (by intro c a d v w h; cases d <;> exact h) rfl rfl rfl (fun w' hS => (E.Runs.fieldAddr rfl rfl hu25 rfl (by assumption) rfl)) ?_
  refine E.GH.take (i := 3) rfl (by kernel_rfl) (by kernel_rfl) (by kernel_rfl) (by intro c a d v w h; cases d <;> exact h) rfl rfl rfl (fun w' hS => (E.Runs.load1 rfl rfl hu23 rfl (by first | exact E.keeps hS (E.blkc (by assumption) rfl) (by first | exact E.nen | exact E.nes (by assumption) | exact E.nes (Ne.symm (by assumption))) | exact pw_cell_below (below_step s_L (E.belowG hS)) (by assumption)))) ?_
  refine E.GH.take (i := 4) rfl (by kernel_rfl) (by kernel_rfl) (by kernel_rfl) (by intro c a d v w h; cases d <;> exact h) rfl rfl rfl (fun w' hS => (E.Runs.len rfl rfl hu23)) ?_
  refine E.GH.take (i := 5) rfl (by kernel_rfl) (by kernel_rfl) (by kernel_rfl) (by intro c a d v w h; cases d <;> exact h) rfl rfl rfl (fun w' hS => (E.Runs.sub rfl rfl rfl (IntWalk.i64_in _ (by omega)))) ?_
  by_cases h13 : inR x.f1 0 (qs.length - 1)
  · obtain ⟨u, hu1⟩ : ∃ u : Nat, (u : Int) = x.f1 := ⟨x.f1.toNat, by unfold inR at h13; omega⟩
    have hul : u < qs.length := by unfold inR at h13; omega
    obtain ⟨q, hq⟩ : ∃ q, q = qs.getD u P.z45 := ⟨_, rfl⟩
    have hqu : qs.getD x.f1.toNat P.z45 = q := by rw [hq, ← hu1, Int.toNat_natCast]
    obtain ⟨aQ, eQ, cQ⟩ := pass_at hQ (show qs[u]? = some q by rw [hq]; exact getD_some hul _)
    obtain ⟨hq1, hq2, hq3, hq4, hq5, hq6, hq7, hq8, hq9⟩ := hok.q q (by rw [hq]; exact getD_mem hul)
    refine E.GH.one (i := 6) (by kernel_rfl) rfl ?_
    refine E.GO.st rfl rfl rfl (E.ST.call rfl ent38 (E.evc rfl (E.evc rfl (E.evc rfl E.evn))) ((within_o x.f1 0 (qs.length - 1) true (iff_of_true rfl h13) _).mono ?_))
    rintro e w13 ⟨rfl, l13⟩
    refine ⟨_, rfl, hh.trans (E.gbB l13), ?_⟩
    replace hh := hh.trans (E.gbB l13)
    replace b3 := blk_below b3 l13
    replace b5 := blk_below b5 l13
    replace L := below_step L l13
    refine E.GH.take (i := 7) rfl (by kernel_rfl) (by kernel_rfl) (by kernel_rfl) (by intro c a d v w h; cases d <;> exact h) rfl rfl rfl (fun w' hS => (E.Runs.move rfl rfl)) ?_
    refine E.GH.take (i := 8) rfl (by kernel_rfl) (by kernel_rfl) (by kernel_rfl) (by intro c a d v w h; cases d <;> exact h) rfl rfl rfl (fun w' hS => (E.Runs.fieldAddr rfl rfl hu35 rfl (by assumption) rfl)) ?_
    refine E.GH.take (i := 9) rfl (by kernel_rfl) (by kernel_rfl) (by kernel_rfl) (by intro c a d v w h; cases d <;> exact h) rfl rfl rfl (fun w' hS => (E.Runs.load rfl rfl hu3 (by first | exact E.keeps hS (E.blkc (by assumption) rfl) (by first | exact E.nen | exact E.nes (by assumption) | exact E.nes (Ne.symm (by assumption))) | exact pw_cell_below (below_step s_L (E.belowG hS)) (by assumption)))) ?_
    refine E.GH.take (i := 10) rfl (by kernel_rfl) (by kernel_rfl) (by kernel_rfl) (by intro c a d v w h; cases d <;> exact h) rfl rfl rfl (fun w' hS => (E.Runs.move rfl rfl)) ?_
    by_cases h18 : inR x.f0 0 T
    · have h18b := h18
      unfold inR at h18b
      refine E.GH.one (i := 11) (by kernel_rfl) rfl ?_
      refine E.GO.st rfl rfl rfl (E.ST.call rfl ent38 (E.evc rfl (E.evc rfl (E.evc rfl E.evn))) ((within_o x.f0 0 T true (iff_of_true rfl h18) _).mono ?_))
      rintro e w18 ⟨rfl, l18⟩
      refine ⟨_, rfl, hh.trans (E.gbB l18), ?_⟩
      replace hh := hh.trans (E.gbB l18)
      replace b3 := blk_below b3 l18
      replace b5 := blk_below b5 l18
      replace L := below_step L l18
      refine E.GH.take (i := 12) rfl (by kernel_rfl) (by kernel_rfl) (by kernel_rfl) (by intro c a d v w h; cases d <;> exact h) rfl rfl rfl (fun w' hS => (E.Runs.pick_t rfl rfl rfl)) ?_
      refine E.GH.take (i := 13) rfl (by kernel_rfl) (by kernel_rfl) (by kernel_rfl) (by intro c a d v w h; cases d <;> exact h) rfl rfl rfl (fun w' hS => (E.Runs.move rfl rfl)) ?_
      refine E.GH.take (i := 14) rfl (by kernel_rfl) (by kernel_rfl) (by kernel_rfl) (by intro c a d v w h; cases d <;> exact h) rfl rfl rfl (fun w' hS => (E.Runs.fieldAddr rfl rfl hu35 rfl (by assumption) rfl)) ?_
      refine E.GH.take (i := 15) rfl (by kernel_rfl) (by kernel_rfl) (by kernel_rfl) (by intro c a d v w h; cases d <;> exact h) rfl rfl rfl (fun w' hS => (E.Runs.load rfl rfl hu3 (by first | exact E.keeps hS (E.blkc (by assumption) rfl) (by first | exact E.nen | exact E.nes (by assumption) | exact E.nes (Ne.symm (by assumption))) | exact pw_cell_below (below_step s_L (E.belowG hS)) (by assumption)))) ?_
      refine E.GH.cmp (i := 16) rfl (by kernel_rfl) (by kernel_rfl) (by kernel_rfl) (by intro c a d v w h; cases d <;> exact h) rfl rfl rfl (fun _ h w' hS => (E.Runs.geq rfl rfl rfl h)) (fun h23 => ?_) (fun h23 => ?_)
      · refine E.GH.take (i := 17) rfl (by kernel_rfl) (by kernel_rfl) (by kernel_rfl) (by intro c a d v w h; cases d <;> exact h) rfl rfl rfl (fun w' hS => (E.Runs.pick_t rfl rfl rfl)) ?_
        refine E.GH.take (i := 18) rfl (by kernel_rfl) (by kernel_rfl) (by kernel_rfl) (by intro c a d v w h; cases d <;> exact h) rfl rfl rfl (fun w' hS => (E.Runs.move rfl rfl)) ?_
        refine E.GH.take (i := 19) rfl (by kernel_rfl) (by kernel_rfl) (by kernel_rfl) (by intro c a d v w h; cases d <;> exact h) rfl rfl rfl (fun w' hS => (E.Runs.fieldAddr rfl rfl hu35 rfl (by assumption) rfl)) ?_
        refine E.GH.take (i := 20) rfl (by kernel_rfl) (by kernel_rfl) (by kernel_rfl) (by intro c a d v w h; cases d <;> exact h) rfl rfl rfl (fun w' hS => (E.Runs.load rfl rfl hu3 (by first | exact E.keeps hS (E.blkc (by assumption) rfl) (by first | exact E.nen | exact E.nes (by assumption) | exact E.nes (Ne.symm (by assumption))) | exact pw_cell_below (below_step s_L (E.belowG hS)) (by assumption)))) ?_
        refine E.GH.take (i := 21) rfl (by kernel_rfl) (by kernel_rfl) (by kernel_rfl) (by intro c a d v w h; cases d <;> exact h) rfl rfl rfl (fun w' hS => (E.Runs.fieldAddr rfl rfl hu25 rfl (by assumption) rfl)) ?_
        refine E.GH.take (i := 22) rfl (by kernel_rfl) (by kernel_rfl) (by kernel_rfl) (by intro c a d v w h; cases d <;> exact h) rfl rfl rfl (fun w' hS => (E.Runs.load1 rfl rfl hu23 rfl (by first | exact E.keeps hS (E.blkc (by assumption) rfl) (by first | exact E.nen | exact E.nes (by assumption) | exact E.nes (Ne.symm (by assumption))) | exact pw_cell_below (below_step s_L (E.belowG hS)) (by assumption)))) ?_
        refine E.GH.take (i := 23) rfl (by kernel_rfl) (by kernel_rfl) (by kernel_rfl) (by intro c a d v w h; cases d <;> exact h) rfl rfl rfl (fun w' hS => (E.Runs.fieldAddr rfl rfl hu35 rfl (by assumption) rfl)) ?_
        refine E.GH.take (i := 24) rfl (by kernel_rfl) (by kernel_rfl) (by kernel_rfl) (by intro c a d v w h; cases d <;> exact h) rfl rfl rfl (fun w' hS => (E.Runs.load rfl rfl hu3 (by first | exact E.keeps hS (E.blkc (by assumption) rfl) (by first | exact E.nen | exact E.nes (by assumption) | exact E.nes (Ne.symm (by assumption))) | exact pw_cell_below (below_step s_L (E.belowG hS)) (by assumption)))) ?_
        refine E.GH.take (i := 25) rfl (by kernel_rfl) (by kernel_rfl) (by kernel_rfl) (by intro c a d v w h; cases d <;> exact h) rfl rfl rfl (fun w' hS => (E.Runs.indexAddrA (i := u) rfl rfl (by rw [hu1]; rfl) hu23 z45 o45 (show (u : Int) < qs.length by omega) eQ rfl)) ?_
        refine E.GH.take (i := 26) rfl (by kernel_rfl) (by kernel_rfl) (by kernel_rfl) (by intro c a d v w h; cases d <;> exact h) rfl rfl rfl (fun w' hS => (E.Runs.fieldAddr rfl rfl hu45 rfl (by assumption) rfl)) ?_
        refine E.GH.take (i := 27) rfl (by kernel_rfl) (by kernel_rfl) (by kernel_rfl) (by intro c a d v w h; cases d <;> exact h) rfl rfl rfl (fun w' hS => (E.Runs.load (v := .int .i64 q.f3) rfl rfl hu3 (by rw [← E.add_onA]; exact pw_cell_below (below_step s_L (E.belowG hS)) (cQ 3 _ rfl)))) ?_
        refine E.GH.take (i := 28) rfl (by kernel_rfl) (by kernel_rfl) (by kernel_rfl) (by intro c a d v w h; cases d <;> exact h) rfl rfl rfl (fun w' hS => (E.Runs.add rfl rfl rfl (IntWalk.i64_in _ (by omega)))) ?_
        refine E.GH.take (i := 29) rfl (by kernel_rfl) (by kernel_rfl) (by kernel_rfl) (by intro c a d v w h; cases d <;> exact h) rfl rfl rfl (fun w' hS => (E.Runs.move rfl rfl)) ?_
        refine E.GH.cmp (i := 30) rfl (by kernel_rfl) (by kernel_rfl) (by kernel_rfl) (by intro c a d v w h; cases d <;> exact h) rfl rfl rfl (fun _ h w' hS => (E.Runs.leq rfl rfl rfl h)) (fun h37 => ?_) (fun h37 => ?_)
        · refine E.GH.take (i := 31) rfl (by kernel_rfl) (by kernel_rfl) (by kernel_rfl) (by intro c a d v w h; cases d <;> exact h) rfl rfl rfl (fun w' hS => (E.Runs.pick_t rfl rfl rfl)) ?_
          refine E.GH.take (i := 32) rfl (by kernel_rfl) (by kernel_rfl) (by kernel_rfl) (by intro c a d v w h; cases d <;> exact h) rfl rfl rfl (fun w' hS => (E.Runs.move rfl rfl)) ?_
          refine E.GH.take (i := 33) rfl (by kernel_rfl) (by kernel_rfl) (by kernel_rfl) (by intro c a d v w h; cases d <;> exact h) rfl rfl rfl (fun w' hS => (E.Runs.fieldAddr rfl rfl hu35 rfl (by assumption) rfl)) ?_
          refine E.GH.take (i := 34) rfl (by kernel_rfl) (by kernel_rfl) (by kernel_rfl) (by intro c a d v w h; cases d <;> exact h) rfl rfl rfl (fun w' hS => (E.Runs.load rfl rfl hu3 (by first | exact E.keeps hS (E.blkc (by assumption) rfl) (by first | exact E.nen | exact E.nes (by assumption) | exact E.nes (Ne.symm (by assumption))) | exact pw_cell_below (below_step s_L (E.belowG hS)) (by assumption)))) ?_
          refine E.GH.take (i := 35) rfl (by kernel_rfl) (by kernel_rfl) (by kernel_rfl) (by intro c a d v w h; cases d <;> exact h) rfl rfl rfl (fun w' hS => (E.Runs.fieldAddr rfl rfl hu25 rfl (by assumption) rfl)) ?_
          refine E.GH.take (i := 36) rfl (by kernel_rfl) (by kernel_rfl) (by kernel_rfl) (by intro c a d v w h; cases d <;> exact h) rfl rfl rfl (fun w' hS => (E.Runs.load1 rfl rfl hu23 rfl (by first | exact E.keeps hS (E.blkc (by assumption) rfl) (by first | exact E.nen | exact E.nes (by assumption) | exact E.nes (Ne.symm (by assumption))) | exact pw_cell_below (below_step s_L (E.belowG hS)) (by assumption)))) ?_
          refine E.GH.take (i := 37) rfl (by kernel_rfl) (by kernel_rfl) (by kernel_rfl) (by intro c a d v w h; cases d <;> exact h) rfl rfl rfl (fun w' hS => (E.Runs.fieldAddr rfl rfl hu35 rfl (by assumption) rfl)) ?_
          refine E.GH.take (i := 38) rfl (by kernel_rfl) (by kernel_rfl) (by kernel_rfl) (by intro c a d v w h; cases d <;> exact h) rfl rfl rfl (fun w' hS => (E.Runs.load rfl rfl hu3 (by first | exact E.keeps hS (E.blkc (by assumption) rfl) (by first | exact E.nen | exact E.nes (by assumption) | exact E.nes (Ne.symm (by assumption))) | exact pw_cell_below (below_step s_L (E.belowG hS)) (by assumption)))) ?_
          refine E.GH.take (i := 39) rfl (by kernel_rfl) (by kernel_rfl) (by kernel_rfl) (by intro c a d v w h; cases d <;> exact h) rfl rfl rfl (fun w' hS => (E.Runs.indexAddrA (i := u) rfl rfl (by rw [hu1]; rfl) hu23 z45 o45 (show (u : Int) < qs.length by omega) eQ rfl)) ?_
          refine E.GH.take (i := 40) rfl (by kernel_rfl) (by kernel_rfl) (by kernel_rfl) (by intro c a d v w h; cases d <;> exact h) rfl rfl rfl (fun w' hS => (E.Runs.fieldAddr rfl rfl hu45 rfl (by assumption) rfl)) ?_
          refine E.GH.take (i := 41) rfl (by kernel_rfl) (by kernel_rfl) (by kernel_rfl) (by intro c a d v w h; cases d <;> exact h) rfl rfl rfl (fun w' hS => (E.Runs.load (v := .int .i64 q.f2) rfl rfl hu3 (by rw [← E.add_onA]; exact pw_cell_below (below_step s_L (E.belowG hS)) (cQ 2 _ rfl)))) ?_
          refine E.GH.cmp (i := 42) rfl (by kernel_rfl) (by kernel_rfl) (by kernel_rfl) (by intro c a d v w h; cases d <;> exact h) rfl rfl rfl (fun _ h w' hS => (E.Runs.leq rfl rfl rfl h)) (fun h49 => ?_) (fun h49 => ?_)
          · refine E.GH.take (i := 43) rfl (by kernel_rfl) (by kernel_rfl) (by kernel_rfl) (by intro c a d v w h; cases d <;> exact h) rfl rfl rfl (fun w' hS => (E.Runs.pick_t rfl rfl rfl)) ?_
            refine E.GH.take (i := 44) rfl (by kernel_rfl) (by kernel_rfl) (by kernel_rfl) (by intro c a d v w h; cases d <;> exact h) rfl rfl rfl (fun w' hS => (E.Runs.assign rfl rfl)) ?_
            refine E.GH.done (by kernel_rfl) ?_
            refine E.QG.code ?_
            refine E.CG.ret ?_
            exact E.QG.result rfl rfl ⟨by rw [hb.mpr ⟨h13, h18, by omega, by rw [hqu]; omega, by rw [hqu]; omega⟩], L⟩
          · refine E.GH.take (i := 43) rfl (by kernel_rfl) (by kernel_rfl) (by kernel_rfl) (by intro c a d v w h; cases d <;> exact h) rfl rfl rfl (fun w' hS => (E.Runs.pick_t rfl rfl rfl)) ?_
            refine E.GH.take (i := 44) rfl (by kernel_rfl) (by kernel_rfl) (by kernel_rfl) (by intro c a d v w h; cases d <;> exact h) rfl rfl rfl (fun w' hS => (E.Runs.assign rfl rfl)) ?_
            refine E.GH.done (by kernel_rfl) ?_
            refine E.QG.code ?_
            refine E.CG.ret ?_
            exact E.QG.result rfl rfl ⟨by rw [bool_no hb (fun k => by obtain ⟨q1, q2, q3, q4, q5⟩ := k; rw [hqu] at q5; omega)], L⟩
        · refine E.GH.take (i := 31) rfl (by kernel_rfl) (by kernel_rfl) (by kernel_rfl) (by intro c a d v w h; cases d <;> exact h) rfl rfl rfl (fun w' hS => (E.Runs.pick_t rfl rfl rfl)) ?_
          refine E.GH.take (i := 32) rfl (by kernel_rfl) (by kernel_rfl) (by kernel_rfl) (by intro c a d v w h; cases d <;> exact h) rfl rfl rfl (fun w' hS => (E.Runs.move rfl rfl)) ?_
          refine E.GH.pass (i := 33) rfl (by kernel_rfl) (by kernel_rfl) (by kernel_rfl) (by intro c a d v w h; cases d <;> exact h) rfl rfl rfl ?_
          refine E.GH.pass (i := 34) rfl (by kernel_rfl) (by kernel_rfl) (by kernel_rfl) (by intro c a d v w h; cases d <;> exact h) rfl rfl rfl ?_
          refine E.GH.pass (i := 35) rfl (by kernel_rfl) (by kernel_rfl) (by kernel_rfl) (by intro c a d v w h; cases d <;> exact h) rfl rfl rfl ?_
          refine E.GH.pass (i := 36) rfl (by kernel_rfl) (by kernel_rfl) (by kernel_rfl) (by intro c a d v w h; cases d <;> exact h) rfl rfl rfl ?_
          refine E.GH.pass (i := 37) rfl (by kernel_rfl) (by kernel_rfl) (by kernel_rfl) (by intro c a d v w h; cases d <;> exact h) rfl rfl rfl ?_
          refine E.GH.pass (i := 38) rfl (by kernel_rfl) (by kernel_rfl) (by kernel_rfl) (by intro c a d v w h; cases d <;> exact h) rfl rfl rfl ?_
          refine E.GH.pass (i := 39) rfl (by kernel_rfl) (by kernel_rfl) (by kernel_rfl) (by intro c a d v w h; cases d <;> exact h) rfl rfl rfl ?_
          refine E.GH.pass (i := 40) rfl (by kernel_rfl) (by kernel_rfl) (by kernel_rfl) (by intro c a d v w h; cases d <;> exact h) rfl rfl rfl ?_
          refine E.GH.pass (i := 41) rfl (by kernel_rfl) (by kernel_rfl) (by kernel_rfl) (by intro c a d v w h; cases d <;> exact h) rfl rfl rfl ?_
          refine E.GH.pass (i := 42) rfl (by kernel_rfl) (by kernel_rfl) (by kernel_rfl) (by intro c a d v w h; cases d <;> exact h) rfl rfl rfl ?_
          refine E.GH.take (i := 43) rfl (by kernel_rfl) (by kernel_rfl) (by kernel_rfl) (by intro c a d v w h; cases d <;> exact h) rfl rfl rfl (fun w' hS => (E.Runs.pick_f rfl rfl rfl)) ?_
          refine E.GH.take (i := 44) rfl (by kernel_rfl) (by kernel_rfl) (by kernel_rfl) (by intro c a d v w h; cases d <;> exact h) rfl rfl rfl (fun w' hS => (E.Runs.assign rfl rfl)) ?_
          refine E.GH.done (by kernel_rfl) ?_
          refine E.QG.code ?_
          refine E.CG.ret ?_
          exact E.QG.result rfl rfl ⟨by rw [bool_no hb (fun k => by obtain ⟨q1, q2, q3, q4, q5⟩ := k; rw [hqu] at q4; omega)], L⟩
      · refine E.GH.take (i := 17) rfl (by kernel_rfl) (by kernel_rfl) (by kernel_rfl) (by intro c a d v w h; cases d <;> exact h) rfl rfl rfl (fun w' hS => (E.Runs.pick_t rfl rfl rfl)) ?_
        refine E.GH.take (i := 18) rfl (by kernel_rfl) (by kernel_rfl) (by kernel_rfl) (by intro c a d v w h; cases d <;> exact h) rfl rfl rfl (fun w' hS => (E.Runs.move rfl rfl)) ?_
        refine E.GH.pass (i := 19) rfl (by kernel_rfl) (by kernel_rfl) (by kernel_rfl) (by intro c a d v w h; cases d <;> exact h) rfl rfl rfl ?_
        refine E.GH.pass (i := 20) rfl (by kernel_rfl) (by kernel_rfl) (by kernel_rfl) (by intro c a d v w h; cases d <;> exact h) rfl rfl rfl ?_
        refine E.GH.pass (i := 21) rfl (by kernel_rfl) (by kernel_rfl) (by kernel_rfl) (by intro c a d v w h; cases d <;> exact h) rfl rfl rfl ?_
        refine E.GH.pass (i := 22) rfl (by kernel_rfl) (by kernel_rfl) (by kernel_rfl) (by intro c a d v w h; cases d <;> exact h) rfl rfl rfl ?_
        refine E.GH.pass (i := 23) rfl (by kernel_rfl) (by kernel_rfl) (by kernel_rfl) (by intro c a d v w h; cases d <;> exact h) rfl rfl rfl ?_
        refine E.GH.pass (i := 24) rfl (by kernel_rfl) (by kernel_rfl) (by kernel_rfl) (by intro c a d v w h; cases d <;> exact h) rfl rfl rfl ?_
        refine E.GH.pass (i := 25) rfl (by kernel_rfl) (by kernel_rfl) (by kernel_rfl) (by intro c a d v w h; cases d <;> exact h) rfl rfl rfl ?_
        refine E.GH.pass (i := 26) rfl (by kernel_rfl) (by kernel_rfl) (by kernel_rfl) (by intro c a d v w h; cases d <;> exact h) rfl rfl rfl ?_
        refine E.GH.pass (i := 27) rfl (by kernel_rfl) (by kernel_rfl) (by kernel_rfl) (by intro c a d v w h; cases d <;> exact h) rfl rfl rfl ?_
        refine E.GH.pass (i := 28) rfl (by kernel_rfl) (by kernel_rfl) (by kernel_rfl) (by intro c a d v w h; cases d <;> exact h) rfl rfl rfl ?_
        refine E.GH.pass (i := 29) rfl (by kernel_rfl) (by kernel_rfl) (by kernel_rfl) (by intro c a d v w h; cases d <;> exact h) rfl rfl rfl ?_
        refine E.GH.pass (i := 30) rfl (by kernel_rfl) (by kernel_rfl) (by kernel_rfl) (by intro c a d v w h; cases d <;> exact h) rfl rfl rfl ?_
        refine E.GH.take (i := 31) rfl (by kernel_rfl) (by kernel_rfl) (by kernel_rfl) (by intro c a d v w h; cases d <;> exact h) rfl rfl rfl (fun w' hS => (E.Runs.pick_f rfl rfl rfl)) ?_
        refine E.GH.take (i := 32) rfl (by kernel_rfl) (by kernel_rfl) (by kernel_rfl) (by intro c a d v w h; cases d <;> exact h) rfl rfl rfl (fun w' hS => (E.Runs.move rfl rfl)) ?_
        refine E.GH.pass (i := 33) rfl (by kernel_rfl) (by kernel_rfl) (by kernel_rfl) (by intro c a d v w h; cases d <;> exact h) rfl rfl rfl ?_
        refine E.GH.pass (i := 34) rfl (by kernel_rfl) (by kernel_rfl) (by kernel_rfl) (by intro c a d v w h; cases d <;> exact h) rfl rfl rfl ?_
        refine E.GH.pass (i := 35) rfl (by kernel_rfl) (by kernel_rfl) (by kernel_rfl) (by intro c a d v w h; cases d <;> exact h) rfl rfl rfl ?_
        refine E.GH.pass (i := 36) rfl (by kernel_rfl) (by kernel_rfl) (by kernel_rfl) (by intro c a d v w h; cases d <;> exact h) rfl rfl rfl ?_
        refine E.GH.pass (i := 37) rfl (by kernel_rfl) (by kernel_rfl) (by kernel_rfl) (by intro c a d v w h; cases d <;> exact h) rfl rfl rfl ?_
        refine E.GH.pass (i := 38) rfl (by kernel_rfl) (by kernel_rfl) (by kernel_rfl) (by intro c a d v w h; cases d <;> exact h) rfl rfl rfl ?_
        refine E.GH.pass (i := 39) rfl (by kernel_rfl) (by kernel_rfl) (by kernel_rfl) (by intro c a d v w h; cases d <;> exact h) rfl rfl rfl ?_
        refine E.GH.pass (i := 40) rfl (by kernel_rfl) (by kernel_rfl) (by kernel_rfl) (by intro c a d v w h; cases d <;> exact h) rfl rfl rfl ?_
        refine E.GH.pass (i := 41) rfl (by kernel_rfl) (by kernel_rfl) (by kernel_rfl) (by intro c a d v w h; cases d <;> exact h) rfl rfl rfl ?_
        refine E.GH.pass (i := 42) rfl (by kernel_rfl) (by kernel_rfl) (by kernel_rfl) (by intro c a d v w h; cases d <;> exact h) rfl rfl rfl ?_
        refine E.GH.take (i := 43) rfl (by kernel_rfl) (by kernel_rfl) (by kernel_rfl) (by intro c a d v w h; cases d <;> exact h) rfl rfl rfl (fun w' hS => (E.Runs.pick_f rfl rfl rfl)) ?_
        refine E.GH.take (i := 44) rfl (by kernel_rfl) (by kernel_rfl) (by kernel_rfl) (by intro c a d v w h; cases d <;> exact h) rfl rfl rfl (fun w' hS => (E.Runs.assign rfl rfl)) ?_
        refine E.GH.done (by kernel_rfl) ?_
        refine E.QG.code ?_
        refine E.CG.ret ?_
        exact E.QG.result rfl rfl ⟨by rw [bool_no hb (fun k => by obtain ⟨q1, q2, q3, q4, q5⟩ := k; omega)], L⟩
    · refine E.GH.one (i := 11) (by kernel_rfl) rfl ?_
      refine E.GO.st rfl rfl rfl (E.ST.call rfl ent38 (E.evc rfl (E.evc rfl (E.evc rfl E.evn))) ((within_o x.f0 0 T false (iff_of_false Bool.false_ne_true h18) _).mono ?_))
      rintro e w18 ⟨rfl, l18⟩
      refine ⟨_, rfl, hh.trans (E.gbB l18), ?_⟩
      replace hh := hh.trans (E.gbB l18)
      replace b3 := blk_below b3 l18
      replace b5 := blk_below b5 l18
      replace L := below_step L l18
      refine E.GH.take (i := 12) rfl (by kernel_rfl) (by kernel_rfl) (by kernel_rfl) (by intro c a d v w h; cases d <;> exact h) rfl rfl rfl (fun w' hS => (E.Runs.pick_t rfl rfl rfl)) ?_
      refine E.GH.take (i := 13) rfl (by kernel_rfl) (by kernel_rfl) (by kernel_rfl) (by intro c a d v w h; cases d <;> exact h) rfl rfl rfl (fun w' hS => (E.Runs.move rfl rfl)) ?_
      refine E.GH.pass (i := 14) rfl (by kernel_rfl) (by kernel_rfl) (by kernel_rfl) (by intro c a d v w h; cases d <;> exact h) rfl rfl rfl ?_
      refine E.GH.pass (i := 15) rfl (by kernel_rfl) (by kernel_rfl) (by kernel_rfl) (by intro c a d v w h; cases d <;> exact h) rfl rfl rfl ?_
      refine E.GH.pass (i := 16) rfl (by kernel_rfl) (by kernel_rfl) (by kernel_rfl) (by intro c a d v w h; cases d <;> exact h) rfl rfl rfl ?_
      refine E.GH.take (i := 17) rfl (by kernel_rfl) (by kernel_rfl) (by kernel_rfl) (by intro c a d v w h; cases d <;> exact h) rfl rfl rfl (fun w' hS => (E.Runs.pick_f rfl rfl rfl)) ?_
      refine E.GH.take (i := 18) rfl (by kernel_rfl) (by kernel_rfl) (by kernel_rfl) (by intro c a d v w h; cases d <;> exact h) rfl rfl rfl (fun w' hS => (E.Runs.move rfl rfl)) ?_
      refine E.GH.pass (i := 19) rfl (by kernel_rfl) (by kernel_rfl) (by kernel_rfl) (by intro c a d v w h; cases d <;> exact h) rfl rfl rfl ?_
      refine E.GH.pass (i := 20) rfl (by kernel_rfl) (by kernel_rfl) (by kernel_rfl) (by intro c a d v w h; cases d <;> exact h) rfl rfl rfl ?_
      refine E.GH.pass (i := 21) rfl (by kernel_rfl) (by kernel_rfl) (by kernel_rfl) (by intro c a d v w h; cases d <;> exact h) rfl rfl rfl ?_
      refine E.GH.pass (i := 22) rfl (by kernel_rfl) (by kernel_rfl) (by kernel_rfl) (by intro c a d v w h; cases d <;> exact h) rfl rfl rfl ?_
      refine E.GH.pass (i := 23) rfl (by kernel_rfl) (by kernel_rfl) (by kernel_rfl) (by intro c a d v w h; cases d <;> exact h) rfl rfl rfl ?_
      refine E.GH.pass (i := 24) rfl (by kernel_rfl) (by kernel_rfl) (by kernel_rfl) (by intro c a d v w h; cases d <;> exact h) rfl rfl rfl ?_
      refine E.GH.pass (i := 25) rfl (by kernel_rfl) (by kernel_rfl) (by kernel_rfl) (by intro c a d v w h; cases d <;> exact h) rfl rfl rfl ?_
      refine E.GH.pass (i := 26) rfl (by kernel_rfl) (by kernel_rfl) (by kernel_rfl) (by intro c a d v w h; cases d <;> exact h) rfl rfl rfl ?_
      refine E.GH.pass (i := 27) rfl (by kernel_rfl) (by kernel_rfl) (by kernel_rfl) (by intro c a d v w h; cases d <;> exact h) rfl rfl rfl ?_
      refine E.GH.pass (i := 28) rfl (by kernel_rfl) (by kernel_rfl) (by kernel_rfl) (by intro c a d v w h; cases d <;> exact h) rfl rfl rfl ?_
      refine E.GH.pass (i := 29) rfl (by kernel_rfl) (by kernel_rfl) (by kernel_rfl) (by intro c a d v w h; cases d <;> exact h) rfl rfl rfl ?_
      refine E.GH.pass (i := 30) rfl (by kernel_rfl) (by kernel_rfl) (by kernel_rfl) (by intro c a d v w h; cases d <;> exact h) rfl rfl rfl ?_
      refine E.GH.take (i := 31) rfl (by kernel_rfl) (by kernel_rfl) (by kernel_rfl) (by intro c a d v w h; cases d <;> exact h) rfl rfl rfl (fun w' hS => (E.Runs.pick_f rfl rfl rfl)) ?_
      refine E.GH.take (i := 32) rfl (by kernel_rfl) (by kernel_rfl) (by kernel_rfl) (by intro c a d v w h; cases d <;> exact h) rfl rfl rfl (fun w' hS => (E.Runs.move rfl rfl)) ?_
      refine E.GH.pass (i := 33) rfl (by kernel_rfl) (by kernel_rfl) (by kernel_rfl) (by intro c a d v w h; cases d <;> exact h) rfl rfl rfl ?_
      refine E.GH.pass (i := 34) rfl (by kernel_rfl) (by kernel_rfl) (by kernel_rfl) (by intro c a d v w h; cases d <;> exact h) rfl rfl rfl ?_
      refine E.GH.pass (i := 35) rfl (by kernel_rfl) (by kernel_rfl) (by kernel_rfl) (by intro c a d v w h; cases d <;> exact h) rfl rfl rfl ?_
      refine E.GH.pass (i := 36) rfl (by kernel_rfl) (by kernel_rfl) (by kernel_rfl) (by intro c a d v w h; cases d <;> exact h) rfl rfl rfl ?_
      refine E.GH.pass (i := 37) rfl (by kernel_rfl) (by kernel_rfl) (by kernel_rfl) (by intro c a d v w h; cases d <;> exact h) rfl rfl rfl ?_
      refine E.GH.pass (i := 38) rfl (by kernel_rfl) (by kernel_rfl) (by kernel_rfl) (by intro c a d v w h; cases d <;> exact h) rfl rfl rfl ?_
      refine E.GH.pass (i := 39) rfl (by kernel_rfl) (by kernel_rfl) (by kernel_rfl) (by intro c a d v w h; cases d <;> exact h) rfl rfl rfl ?_
      refine E.GH.pass (i := 40) rfl (by kernel_rfl) (by kernel_rfl) (by kernel_rfl) (by intro c a d v w h; cases d <;> exact h) rfl rfl rfl ?_
      refine E.GH.pass (i := 41) rfl (by kernel_rfl) (by kernel_rfl) (by kernel_rfl) (by intro c a d v w h; cases d <;> exact h) rfl rfl rfl ?_
      refine E.GH.pass (i := 42) rfl (by kernel_rfl) (by kernel_rfl) (by kernel_rfl) (by intro c a d v w h; cases d <;> exact h) rfl rfl rfl ?_
      refine E.GH.take (i := 43) rfl (by kernel_rfl) (by kernel_rfl) (by kernel_rfl) (by intro c a d v w h; cases d <;> exact h) rfl rfl rfl (fun w' hS => (E.Runs.pick_f rfl rfl rfl)) ?_
      refine E.GH.take (i := 44) rfl (by kernel_rfl) (by kernel_rfl) (by kernel_rfl) (by intro c a d v w h; cases d <;> exact h) rfl rfl rfl (fun w' hS => (E.Runs.assign rfl rfl)) ?_
      refine E.GH.done (by kernel_rfl) ?_
      refine E.QG.code ?_
      refine E.CG.ret ?_
      exact E.QG.result rfl rfl ⟨by rw [bool_no hb (fun k => by obtain ⟨q1, q2, q3, q4, q5⟩ := k; exact h18 q2)], L⟩
  · refine E.GH.one (i := 6) (by kernel_rfl) rfl ?_
    refine E.GO.st rfl rfl rfl (E.ST.call rfl ent38 (E.evc rfl (E.evc rfl (E.evc rfl E.evn))) ((within_o x.f1 0 (qs.length - 1) false (iff_of_false Bool.false_ne_true h13) _).mono ?_))
    rintro e w13 ⟨rfl, l13⟩
    refine ⟨_, rfl, hh.trans (E.gbB l13), ?_⟩
    replace hh := hh.trans (E.gbB l13)
    replace b3 := blk_below b3 l13
    replace b5 := blk_below b5 l13
    replace L := below_step L l13
    refine E.GH.take (i := 7) rfl (by kernel_rfl) (by kernel_rfl) (by kernel_rfl) (by intro c a d v w h; cases d <;> exact h) rfl rfl rfl (fun w' hS => (E.Runs.move rfl rfl)) ?_
    refine E.GH.pass (i := 8) rfl (by kernel_rfl) (by kernel_rfl) (by kernel_rfl) (by intro c a d v w h; cases d <;> exact h) rfl rfl rfl ?_
    refine E.GH.pass (i := 9) rfl (by kernel_rfl) (by kernel_rfl) (by kernel_rfl) (by intro c a d v w h; cases d <;> exact h) rfl rfl rfl ?_
    refine E.GH.pass (i := 10) rfl (by kernel_rfl) (by kernel_rfl) (by kernel_rfl) (by intro c a d v w h; cases d <;> exact h) rfl rfl rfl ?_
    refine E.GH.pass (i := 11) rfl (by kernel_rfl) (by kernel_rfl) (by kernel_rfl) (by intro c a d v w h; cases d <;> exact h) rfl rfl rfl ?_
    refine E.GH.take (i := 12) rfl (by kernel_rfl) (by kernel_rfl) (by kernel_rfl) (by intro c a d v w h; cases d <;> exact h) rfl rfl rfl (fun w' hS => (E.Runs.pick_f rfl rfl rfl)) ?_
    refine E.GH.take (i := 13) rfl (by kernel_rfl) (by kernel_rfl) (by kernel_rfl) (by intro c a d v w h; cases d <;> exact h) rfl rfl rfl (fun w' hS => (E.Runs.move rfl rfl)) ?_
    refine E.GH.pass (i := 14) rfl (by kernel_rfl) (by kernel_rfl) (by kernel_rfl) (by intro c a d v w h; cases d <;> exact h) rfl rfl rfl ?_
    refine E.GH.pass (i := 15) rfl (by kernel_rfl) (by kernel_rfl) (by kernel_rfl) (by intro c a d v w h; cases d <;> exact h) rfl rfl rfl ?_
    refine E.GH.pass (i := 16) rfl (by kernel_rfl) (by kernel_rfl) (by kernel_rfl) (by intro c a d v w h; cases d <;> exact h) rfl rfl rfl ?_
    refine E.GH.take (i := 17) rfl (by kernel_rfl) (by kernel_rfl) (by kernel_rfl) (by intro c a d v w h; cases d <;> exact h) rfl rfl rfl (fun w' hS => (E.Runs.pick_f rfl rfl rfl)) ?_
    refine E.GH.take (i := 18) rfl (by kernel_rfl) (by kernel_rfl) (by kernel_rfl) (by intro c a d v w h; cases d <;> exact h) rfl rfl rfl (fun w' hS => (E.Runs.move rfl rfl)) ?_
    refine E.GH.pass (i := 19) rfl (by kernel_rfl) (by kernel_rfl) (by kernel_rfl) (by intro c a d v w h; cases d <;> exact h) rfl rfl rfl ?_
    refine E.GH.pass (i := 20) rfl (by kernel_rfl) (by kernel_rfl) (by kernel_rfl) (by intro c a d v w h; cases d <;> exact h) rfl rfl rfl ?_
    refine E.GH.pass (i := 21) rfl (by kernel_rfl) (by kernel_rfl) (by kernel_rfl) (by intro c a d v w h; cases d <;> exact h) rfl rfl rfl ?_
    refine E.GH.pass (i := 22) rfl (by kernel_rfl) (by kernel_rfl) (by kernel_rfl) (by intro c a d v w h; cases d <;> exact h) rfl rfl rfl ?_
    refine E.GH.pass (i := 23) rfl (by kernel_rfl) (by kernel_rfl) (by kernel_rfl) (by intro c a d v w h; cases d <;> exact h) rfl rfl rfl ?_
    refine E.GH.pass (i := 24) rfl (by kernel_rfl) (by kernel_rfl) (by kernel_rfl) (by intro c a d v w h; cases d <;> exact h) rfl rfl rfl ?_
    refine E.GH.pass (i := 25) rfl (by kernel_rfl) (by kernel_rfl) (by kernel_rfl) (by intro c a d v w h; cases d <;> exact h) rfl rfl rfl ?_
    refine E.GH.pass (i := 26) rfl (by kernel_rfl) (by kernel_rfl) (by kernel_rfl) (by intro c a d v w h; cases d <;> exact h) rfl rfl rfl ?_
    refine E.GH.pass (i := 27) rfl (by kernel_rfl) (by kernel_rfl) (by kernel_rfl) (by intro c a d v w h; cases d <;> exact h) rfl rfl rfl ?_
    refine E.GH.pass (i := 28) rfl (by kernel_rfl) (by kernel_rfl) (by kernel_rfl) (by intro c a d v w h; cases d <;> exact h) rfl rfl rfl ?_
    refine E.GH.pass (i := 29) rfl (by kernel_rfl) (by kernel_rfl) (by kernel_rfl) (by intro c a d v w h; cases d <;> exact h) rfl rfl rfl ?_
    refine E.GH.pass (i := 30) rfl (by kernel_rfl) (by kernel_rfl) (by kernel_rfl) (by intro c a d v w h; cases d <;> exact h) rfl rfl rfl ?_
    refine E.GH.take (i := 31) rfl (by kernel_rfl) (by kernel_rfl) (by kernel_rfl) (by intro c a d v w h; cases d <;> exact h) rfl rfl rfl (fun w' hS => (E.Runs.pick_f rfl rfl rfl)) ?_
    refine E.GH.take (i := 32) rfl (by kernel_rfl) (by kernel_rfl) (by kernel_rfl) (by intro c a d v w h; cases d <;> exact h) rfl rfl rfl (fun w' hS => (E.Runs.move rfl rfl)) ?_
    refine E.GH.pass (i := 33) rfl (by kernel_rfl) (by kernel_rfl) (by kernel_rfl) (by intro c a d v w h; cases d <;> exact h) rfl rfl rfl ?_
    refine E.GH.pass (i := 34) rfl (by kernel_rfl) (by kernel_rfl) (by kernel_rfl) (by intro c a d v w h; cases d <;> exact h) rfl rfl rfl ?_
    refine E.GH.pass (i := 35) rfl (by kernel_rfl) (by kernel_rfl) (by kernel_rfl) (by intro c a d v w h; cases d <;> exact h) rfl rfl rfl ?_
    refine E.GH.pass (i := 36) rfl (by kernel_rfl) (by kernel_rfl) (by kernel_rfl) (by intro c a d v w h; cases d <;> exact h) rfl rfl rfl ?_
    refine E.GH.pass (i := 37) rfl (by kernel_rfl) (by kernel_rfl) (by kernel_rfl) (by intro c a d v w h; cases d <;> exact h) rfl rfl rfl ?_
    refine E.GH.pass (i := 38) rfl (by kernel_rfl) (by kernel_rfl) (by kernel_rfl) (by intro c a d v w h; cases d <;> exact h) rfl rfl rfl ?_
    refine E.GH.pass (i := 39) rfl (by kernel_rfl) (by kernel_rfl) (by kernel_rfl) (by intro c a d v w h; cases d <;> exact h) rfl rfl rfl ?_
    refine E.GH.pass (i := 40) rfl (by kernel_rfl) (by kernel_rfl) (by kernel_rfl) (by intro c a d v w h; cases d <;> exact h) rfl rfl rfl ?_
    refine E.GH.pass (i := 41) rfl (by kernel_rfl) (by kernel_rfl) (by kernel_rfl) (by intro c a d v w h; cases d <;> exact h) rfl rfl rfl ?_
    refine E.GH.pass (i := 42) rfl (by kernel_rfl) (by kernel_rfl) (by kernel_rfl) (by intro c a d v w h; cases d <;> exact h) rfl rfl rfl ?_
    refine E.GH.take (i := 43) rfl (by kernel_rfl) (by kernel_rfl) (by kernel_rfl) (by intro c a d v w h; cases d <;> exact h) rfl rfl rfl (fun w' hS => (E.Runs.pick_f rfl rfl rfl)) ?_
    refine E.GH.take (i := 44) rfl (by kernel_rfl) (by kernel_rfl) (by kernel_rfl) (by intro c a d v w h; cases d <;> exact h) rfl rfl rfl (fun w' hS => (E.Runs.assign rfl rfl)) ?_
    refine E.GH.done (by kernel_rfl) ?_
    refine E.QG.code ?_
    refine E.CG.ret ?_
    exact E.QG.result rfl rfl ⟨by rw [bool_no hb (fun k => by obtain ⟨q1, q2, q3, q4, q5⟩ := k; exact h13 q1)], L⟩

end Go.Proofs.Ytmnjlnkfihklgaa.T
namespace Go.Proofs.Ytmnjlnkfihklgaa.T
open Go.RowKit Go.Proofs.YtmnjlnkfihklgaaW.PrintWords Go.Proofs.YtmnjlnkfihklgaaW.PrintMore
open Go.Proofs.Ytmnjlnkfihklgaa.P
set_option linter.unusedVariables false
set_option linter.unusedSimpArgs false
/-! ### The key of a use -/
def ek72 (x : S72) : Value := .agg #[.int .i64 x.f0, .int .i64 x.f1]
abbrev evI (n : Int) : Value := .int .i64 n
instance : DecidableEq S72 := fun x y => decidable_of_iff (x.f0 = y.f0 ∧ x.f1 = y.f1) (by
  obtain ⟨a, b⟩ := x
  obtain ⟨c, d⟩ := y
  simp)
theorem ek72_inj {x y : S72} (h : ek72 x = ek72 y) : x = y := by
  unfold ek72 at h
  obtain ⟨a, b⟩ := x
  obtain ⟨c, d⟩ := y
  simp at h
  rw [h.1, h.2]
set_option maxRecDepth 100000 in
set_option maxHeartbeats 4000000 in
theorem ek72_equal (x y : S72) (W : World) : (Op.equal 72 (ek72 x) (ek72 y)).run Try.prog W = .ok (decide (x = y)) W := by
  have hu72 := Try.underlying72
  have hu3 := Try.underlying3
  have e : decide (x = y) = (decide (x.f0 = y.f0) && decide (x.f1 = y.f1)) := by
    obtain ⟨a, b⟩ := x
    obtain ⟨c, d⟩ := y
    simp
  rw [e]
  show (Op.equalIn (9999 + 1) 72 _ _).run Try.prog W = _
  refine eqA_of hu72 (by kernel_rfl) ?_
  refine eqf_cons (a := .int .i64 x.f0) (b := .int .i64 y.f0) (r := decide (x.f0 = y.f0)) (by rfl) (by go_simp) (by go_simp) ?_ ?_
  · exact run_equalIn_int W 9998 3 .i64 .i64 x.f0 y.f0 hu3
  · refine eqf_last (a := .int .i64 x.f1) (b := .int .i64 y.f1) (r := decide (x.f1 = y.f1)) (by rfl) (by go_simp) (by go_simp) ?_
    exact run_equalIn_int W 9998 3 .i64 .i64 x.f1 y.f1 hu3
set_option maxRecDepth 100000 in
set_option maxHeartbeats 4000000 in
theorem ek72_check (em : Bool) (x : S72) (W : World) : (Instr.checkKey em 10000 72 (ek72 x)).run Try.prog W = .ok () W := by
  have hu72 := Try.underlying72
  have hu3 := Try.underlying3
  show (Instr.checkKey em (9999 + 1) 72 (.agg #[.int .i64 x.f0, .int .i64 x.f1])).run Try.prog W = _
  rw [Instr.checkKey]
  simp only [Sem.run_bind, run_underlying hu72, Result.andThen]
  go_simp
  have h9 : ∀ (v : Int) (W : World), (Instr.checkKey em 9999 3 (.int .i64 v)).run Try.prog W = .ok () W := fun v W => MapKept.run_checkKey hu3 (by simp [MapKept.IsKey]) em 9998
  simp [h9, Result.andThen]
theorem k72T : E.KeyT Try.prog 72 ek72 := E.KeyT.of_equal Try.underlying72 ek72_inj ek72_equal (fun x v => rfl) ek72_check (fun x => by simp [ek72, Instr.sameBits])
/-! ### The changes -/
def chF (qs : List S45) (r m : Int) (x : S35) : Int := (if (qs.getD x.f1.toNat P.z45).f1 = r ∧ x.f0 + (qs.getD x.f1.toNat P.z45).f3 = m then x.f2 else 0) - (if (qs.getD x.f1.toNat P.z45).f0 = r ∧ x.f0 = m then x.f2 else 0)
def chM (qs : List S45) (l : List S35) (m r : Nat) : Int := sumM (chF qs r m) l
def matR (F : Nat → Nat → Int) (R m : Nat) : List Int := (List.range R).map (F m)
def mat (F : Nat → Nat → Int) (T R : Nat) : List (List Int) := (List.range (T + 1)).map (matR F R)
def setF (F : Nat → Nat → Int) (m0 r0 : Nat) (y : Int) (m r : Nat) : Int := if m = m0 ∧ r = r0 then y else F m r
theorem matR_len (F : Nat → Nat → Int) (R m : Nat) : (matR F R m).length = R := by simp [matR]
theorem mat_len (F : Nat → Nat → Int) (T R : Nat) : (mat F T R).length = T + 1 := by simp [mat]
theorem mat_row (F : Nat → Nat → Int) {T R m : Nat} (h : m ≤ T) : (mat F T R)[m]? = some (matR F R m) := by
  unfold mat
  rw [List.getElem?_map, List.getElem?_range (by omega)]
  rfl
theorem matR_get (F : Nat → Nat → Int) {R m r : Nat} (h : r < R) : (matR F R m)[r]? = some (F m r) := by
  unfold matR
  rw [List.getElem?_map, List.getElem?_range h]
  rfl
theorem matR_congr {F G : Nat → Nat → Int} {R m : Nat} (h : ∀ r, r < R → F m r = G m r) : matR F R m = matR G R m := by
  unfold matR
  exact List.map_congr_left fun r hr => h r (List.mem_range.mp hr)
theorem mat_congr {F G : Nat → Nat → Int} {T R : Nat} (h : ∀ m r, m ≤ T → r < R → F m r = G m r) : mat F T R = mat G T R := by
  unfold mat
  exact List.map_congr_left fun m hm => matR_congr fun r hr => h m r (by have := List.mem_range.mp hm; omega) hr
theorem mat_set (F : Nat → Nat → Int) {T R m r : Nat} (hm : m ≤ T) (hr : r < R) (y : Int) : (mat F T R).set m ((matR F R m).set r y) = mat (setF F m r y) T R := by
  apply List.ext_getElem?
  intro i
  by_cases hi : i ≤ T
  · rw [mat_row _ hi]
    by_cases e : m = i
    · subst e
      rw [List.getElem?_set_self (by rw [mat_len]; omega)]
      congr 1
      apply List.ext_getElem?
      intro j
      by_cases hj : j < R
      · rw [matR_get _ hj]
        by_cases e2 : r = j
        · subst e2
          rw [List.getElem?_set_self (by rw [matR_len]; omega)]
          unfold setF
          rw [if_pos ⟨rfl, rfl⟩]
        · rw [List.getElem?_set_ne e2, matR_get _ hj]
          unfold setF
          rw [if_neg (fun z => e2 z.2.symm)]
      · rw [List.getElem?_eq_none (by rw [List.length_set, matR_len]; omega), List.getElem?_eq_none (by rw [matR_len]; omega)]
    · rw [List.getElem?_set_ne e, mat_row _ hi]
      congr 1
      refine matR_congr fun j hj => ?_
      unfold setF
      rw [if_neg (fun z => e z.1.symm)]
  · rw [List.getElem?_eq_none (by rw [List.length_set, mat_len]; omega), List.getElem?_eq_none (by rw [mat_len]; omega)]
theorem rowI_at {W : World} {base : Nat} {A : Option Addr} {n c : Nat} {xs : List Int} {i : Nat} {x : Int} (R : Kd.R kI 3 W base (fun _ => True) (.slice A n c) xs) (hi : xs[i]? = some x) :
    ∃ g, A = some ⟨g, 0, none⟩ ∧ base ≤ g ∧ W.cell? ⟨g, i * 1, none⟩ = some (.int .i64 x) ∧ W.frozen? ⟨g, i * 1, none⟩ = false ∧ (∃ cells, W.heap[g]? = some (.cells cells 3 (0, 0))) ∧
      (∀ y : Int, ∃ w', w' = W.setCell ⟨g, i * 1, none⟩ (.int .i64 y) ∧ Kd.R kI 3 w' base (fun _ => True) (.slice A n c) (xs.set i y) ∧ W.grownBy w' (some g)) := by
  have hil := (List.getElem?_eq_some_iff.1 hi).1
  obtain ⟨g, cap, hv, hb, hl, cells, hc⟩ := Kd.R_form R (by omega)
  have hn := (Kd.R_reads' R).1
  injection hv with hA hn' hc'
  subst hA hc'
  obtain ⟨cs, h1, h2, h3, h4⟩ := Kd.R_elem R 0 (i : Int) (by omega) (by omega)
  have hx : xs.getD i 0 = x := by simp [List.getD_eq_getElem?_getD, hi]
  rw [Int.toNat_natCast, hx] at h2
  obtain rfl : cs = [.int .i64 x] := h2
  rw [Int.toNat_natCast] at h3 h4
  refine ⟨g, rfl, hb, h3 0 _ rfl, h4 0, ⟨cells, hc⟩, fun y => ⟨_, rfl, ?_⟩⟩
  have := Kd.R_seg R (i : Int) (by omega) (by omega) (seg := [.int .i64 y]) (j := 0) h1 (by rw [Int.toNat_natCast]; exact h3) (by show 0 + 1 ≤ 1; decide) (x' := y) (okp := fun _ => False) (show kI.M _ _ _ y ([.int .i64 y] : List Value) from rfl) (fun _ hk => hk.elim)
  rw [Int.toNat_natCast] at this
  exact this
/-- Where Gone stands in memory. -/
structure Gs (w0 w : World) (g3 gO gM : Nat) (hs : List Value) (xss : List (List Int)) (vs : List Value) (Us : S72 → Int) : Prop where
  b3 : w.heap[g3]? = some (.cells hs.toArray 25 (0, 0))
  rows : Rows kI 3 22 w w0.heap.size gO xss vs
  mp : E.Mz ek72 evI 0 w gM Us
  hM : w0.heap.size ≤ gM
  bel : Below w0.heap.size w0 w
  size : w0.heap.size ≤ w.heap.size
section
variable {w0 w w' : World} {g3 gO gM : Nat} {hs : List Value} {xss : List (List Int)} {vs : List Value} {Us : S72 → Int}
theorem Gs.below (h : Gs w0 w g3 gO gM hs xss vs Us) (l : Below w.heap.size w w') : Gs w0 w' g3 gO gM hs xss vs Us :=
  ⟨blk_below h.b3 l, h.rows.below l, h.mp.below l, h.hM, below_step' h.bel h.size l, Nat.le_trans h.size l.size⟩
theorem Gs.grown {g : Nat} (h : Gs w0 w g3 gO gM hs xss vs Us) (hg : w.grownBy w' (some g)) (k : (∃ (t : Nat) (cs : Array Value), w.heap[g]? = some (.cells cs t (0, 0)) ∧ 3 ≠ t ∧ 22 ≠ t ∧ 25 ≠ t) ∧ w0.heap.size ≤ g) : Gs w0 w' g3 gO gM hs xss vs Us := by
  obtain ⟨⟨t, cs, hb, h1, h2, h3⟩, hl⟩ := k
  refine ⟨blk_grown h.b3 hg (E.nes (blk_ne h.b3 hb h3)), h.rows.other rfl hb h1 h2 hg, h.mp.grown hg (E.nes ?_), h.hM, h.bel.grown hg h.size (fun z ez => by cases ez; exact hl), Nat.le_trans h.size hg.size⟩
  rintro rfl
  obtain ⟨f, ⟨es, clock, l, q, _⟩, _⟩ := h.mp
  rw [hb] at q
  cases q
theorem map_ne {gM g t : Nat} {cs : Array Value} (h : E.Mz ek72 evI 0 w gM Us) (hb : w.heap[g]? = some (.cells cs t (0, 0))) : g ≠ gM := by
  rintro rfl
  obtain ⟨f, ⟨es, clock, l, q, _⟩, _⟩ := h
  rw [hb] at q
  cases q
/-- The map is written. -/
theorem Gs.mapped {Us' : S72 → Int} (h : Gs w0 w g3 gO gM hs xss vs Us) (hg : w.grownBy w' (some gM)) (hm : E.Mz ek72 evI 0 w' gM Us') : Gs w0 w' g3 gO gM hs xss vs Us' := by
  refine ⟨blk_grown h.b3 hg (E.nes (map_ne h.mp h.b3)), ⟨h.rows.len, h.rows.hb, blk_grown h.rows.blk hg (E.nes (map_ne h.mp h.rows.blk)), fun i v xs a b => ?_, h.rows.apart⟩, hm, h.hM, h.bel.grown hg h.size (fun z ez => by cases ez; exact h.hM), Nat.le_trans h.size hg.size⟩
  have R := h.rows.row i v xs a b
  refine Kd.R_mono (Kd.R_grown (Kd.R_tight rfl R) hg (fun k hk ek => ?_)) (fun _ _ => trivial)
  obtain ⟨_, inner, ho, _⟩ := R
  obtain ⟨cells, hc⟩ := own_typed ho k hk.symm
  injection ek with ek
  exact map_ne h.mp hc ek
/-- A row that was not there is made and stored. -/
theorem Gs.made {i : Nat} {v1 : Value} {ys : List Int} (h : Gs w0 w g3 gO gM hs xss vs Us) (hi : xss[i]? = some []) (l : Below w.heap.size w w') (r : Kd.R kI 3 w' w0.heap.size (fun _ => True) v1 ys) (hv1 : vs[i]? = some (.slice none 0 0)) (ho : ∃ b, v1.ownBlock = some b ∧ w.heap.size ≤ b) :
    w'.cell? ⟨gO, i * 1, none⟩ = some (.slice none 0 0) ∧ w'.frozen? ⟨gO, i * 1, none⟩ = false ∧ Gs w0 (w'.setCell ⟨gO, i * 1, none⟩ v1) g3 gO gM hs (xss.set i ys) (vs.set i v1) Us := by
  obtain ⟨a1, a2, a3, a4, a5⟩ := h.rows.appended (w' := w') rfl (by decide) hv1 hi (E.gbB l) r (.inr ho)
  have h' := h.below l
  refine ⟨a1, a2, blk_grown h'.b3 a4 (E.nes (blk_ne h'.b3 a5 (by decide))), a3, h'.mp.grown a4 (E.nes (fun e => map_ne h'.mp a5 e.symm)), h.hM, h'.bel.grown a4 h'.size (fun z ez => by cases ez; exact h.rows.hb), Nat.le_trans h'.size a4.size⟩
theorem Gs.entry {T R m r : Nat} {F : Nat → Nat → Int} (h : Gs w0 w g3 gO gM hs (mat F T R) vs Us) (hm : m ≤ T) (hr : r < R) :
    ∃ A c g, w.cell? ⟨gO, m * 1, none⟩ = some (.slice A R c) ∧ A = some ⟨g, 0, none⟩ ∧ w.cell? ⟨g, r * 1, none⟩ = some (.int .i64 (F m r)) ∧ w.frozen? ⟨g, r * 1, none⟩ = false ∧
      (∀ y : Int, ∃ w', w' = w.setCell ⟨g, r * 1, none⟩ (.int .i64 y) ∧ Gs w0 w' g3 gO gM hs (mat (setF F m r y) T R) vs Us ∧ CalmT 3 22 w w') := by
  obtain ⟨A, c, hv, R1⟩ := h.rows.at_ (mat_row F hm)
  rw [matR_len] at hv
  have R2 := R1
  rw [matR_len] at R2
  obtain ⟨g, eA, hg, c1, fr, ⟨cells, hc⟩, st⟩ := rowI_at R2 (matR_get F hr)
  refine ⟨A, c, g, h.rows.cell hv, eA, c1, fr, fun y => ?_⟩
  obtain ⟨w', hw', R', g'⟩ := st y
  have ho : (Value.slice A R c).ownBlock = some g := by rw [eA]; rfl
  refine ⟨w', hw', ⟨blk_grown h.b3 g' (E.nes (blk_ne h.b3 hc (by decide))), ?_, h.mp.grown g' (E.nes (fun e => map_ne h.mp hc e.symm)), h.hM, h.bel.grown g' h.size (fun z ez => by cases ez; exact hg), Nat.le_trans h.size g'.size⟩, CalmT.blk hc (.inl rfl) g'⟩
  rw [← mat_set F hm hr]
  exact h.rows.written rfl (by decide) hv (mat_row F hm) (by rw [ho]; exact g') R'
end
end Go.Proofs.Ytmnjlnkfihklgaa.T
namespace Go.Proofs.Ytmnjlnkfihklgaa.T
open Go.RowKit Go.Proofs.YtmnjlnkfihklgaaW.PrintWords Go.Proofs.YtmnjlnkfihklgaaW.PrintMore
open Go.Proofs.Ytmnjlnkfihklgaa.P
set_option linter.unusedVariables false
set_option linter.unusedSimpArgs false

theorem sumM_congr' {a b : S35 → Int} : ∀ {l : List S35}, (∀ x ∈ l, a x = b x) → sumM a l = sumM b l
  | [], _ => rfl
  | x :: l, h => by simp only [sumM, h x List.mem_cons_self, sumM_congr' (fun y hy => h y (List.mem_cons_of_mem _ hy))]

theorem info22 : (Try.prog.info? 22).map (fun i => (i.zero, i.size, i.bytes)) = some (some (.slice none 0 0), 1, 24) := by kernel_rfl
theorem zero3I (W : World) : (zeroValue 3).run Try.prog W = .ok (evI 0) W := by
  cases hq : Try.prog.info? 3 with
  | none => have := info3z; simp [hq] at this
  | some i =>
    have hi : i.zero = some (.int .i64 0) := by have := info3z; simpa [hq] using this
    simp [go_sem, zeroValue, typeInfo, hq, hi]
theorem lookU {N : Nat} {env : E.Env} {o : Oper} {w : World} {m y : Operand} {g : Nat} {Us : S72 → Int} {a b v : Int} (ho : o.op = .lookup 69 m y false) (hm : E.Ev env m (.map (some g))) (hy : E.Ev env y (.agg #[.int .i64 a, .int .i64 b])) (M : E.Mz ek72 evI 0 w g Us) (hv : Us ⟨a, b⟩ = v) : E.Runs Try.prog N env o w (.int .i64 v) := by
  subst hv
  exact E.Runs.lookupZ ho hm k72T (x := ⟨a, b⟩) hy Try.underlying69 zero3I M
/-- What Gone returns. -/
def GoneR (ps : List Int) (qs : List S45) (m : Int) (l : List S35) (N E : Int) : Prop := (¬ chkE ps qs m = 0 → N = 0 ∧ E = chkE ps qs m) ∧ (chkE ps qs m = 0 → (IsPl ps qs m.toNat l → N = outM qs l ∧ E = 0) ∧ (¬ IsPl ps qs m.toNat l → N = 0 ∧ E = 111))
/-! ### The rows are made -/
structure Gz (w0 w : World) (g3 gO : Nat) (hs : List Value) (xss : List (List Int)) (vs : List Value) : Prop where
  b3 : w.heap[g3]? = some (.cells hs.toArray 25 (0, 0))
  rows : Rows kI 3 22 w w0.heap.size gO xss vs
  bel : Below w0.heap.size w0 w
  size : w0.heap.size ≤ w.heap.size
section
variable {w0 w w' : World} {g3 gO gM : Nat} {hs : List Value} {xss : List (List Int)} {vs : List Value} {Us : S72 → Int}
theorem Gz.below (h : Gz w0 w g3 gO hs xss vs) (l : Below w.heap.size w w') : Gz w0 w' g3 gO hs xss vs :=
  ⟨blk_below h.b3 l, h.rows.below l, below_step' h.bel h.size l, Nat.le_trans h.size l.size⟩
theorem Gz.made {i : Nat} {v1 : Value} {ys : List Int} (h : Gz w0 w g3 gO hs xss vs) (hi : xss[i]? = some []) (l : Below w.heap.size w w') (r : Kd.R kI 3 w' w0.heap.size (fun _ => True) v1 ys) (hv1 : vs[i]? = some (.slice none 0 0)) (ho : ∃ b, v1.ownBlock = some b ∧ w.heap.size ≤ b) :
    w'.cell? ⟨gO, i * 1, none⟩ = some (.slice none 0 0) ∧ w'.frozen? ⟨gO, i * 1, none⟩ = false ∧ Gz w0 (w'.setCell ⟨gO, i * 1, none⟩ v1) g3 gO hs (xss.set i ys) (vs.set i v1) := by
  obtain ⟨a1, a2, a3, a4, a5⟩ := h.rows.appended (w' := w') rfl (by decide) hv1 hi (E.gbB l) r (.inr ho)
  have h' := h.below l
  exact ⟨a1, a2, blk_grown h'.b3 a4 (E.nes (blk_ne h'.b3 a5 (by decide))), a3, h'.bel.grown a4 h'.size (fun z ez => by cases ez; exact h.rows.hb), Nat.le_trans h'.size a4.size⟩
end
def mkR (i T R : Nat) : List (List Int) := (List.range (T + 1)).map fun m => if m < i then List.replicate R 0 else []
theorem mkR_first (T R : Nat) : mkR 0 T R = List.replicate (T + 1) [] := by
  unfold mkR
  apply List.ext_getElem <;> simp
theorem mkR_last {i T R : Nat} (h : T + 1 ≤ i) : mkR i T R = mat (fun _ _ => 0) T R := by
  unfold mkR mat matR
  refine List.map_congr_left fun m hm => ?_
  have := List.mem_range.mp hm
  rw [if_pos (by omega)]
  apply List.ext_getElem <;> simp
theorem mkR_at {i T R : Nat} (h : i < T + 1) : (mkR i T R)[i]? = some [] := by
  unfold mkR
  rw [List.getElem?_map, List.getElem?_range h]
  simp
theorem mkR_set {i T R : Nat} (h : i < T + 1) : (mkR i T R).set i (List.replicate R 0) = mkR (i + 1) T R := by
  apply List.ext_getElem
  · simp [mkR]
  · intro j h1 h2
    simp only [mkR, List.getElem_set, List.getElem_map, List.getElem_range]
    split
    · subst_vars; rw [if_pos (by omega)]
    · by_cases q : j < i
      · rw [if_pos q, if_pos (by omega)]
      · rw [if_neg q, if_neg (by omega)]
/-! ### The changes are bounded -/
theorem chM_b {qs : List S45} {T : Int} {l : List S35} {n : Nat} (h : ∀ k, k < n → ∀ x, l[k]? = some x → MvOk qs T x) (hn : n ≤ 1000000) (m r : Nat) : -20000000 ≤ chM qs (l.take n) m r ∧ chM qs (l.take n) m r ≤ 20000000 := by
  have h1 := sumM_b2 (h := chF qs r m) (b := 20) (l := l.take n) (fun x hx => by
    obtain ⟨k, hk⟩ := List.mem_iff_getElem?.mp hx
    rw [List.getElem?_take] at hk
    split at hk
    · next q =>
      obtain ⟨_, _, q3, q4, _⟩ := h k q x hk
      unfold chF
      split <;> split <;> omega
    · cases hk)
  have h2 : (l.take n).length ≤ n := by rw [List.length_take]; omega
  unfold chM
  omega
/-- Who is in a room while the changes up to a minute are carried out. -/
def thA (ps : List Int) (F : Nat → Nat → Int) (m r j : Nat) : Int := ps.getD j 0 + sumN (fun a => F a j) m + (if j < r then F m j else 0)
def thR (ps : List Int) (F : Nat → Nat → Int) (R m r : Nat) : List Int := (List.range R).map (thA ps F m r)
theorem thR_get {ps : List Int} {F : Nat → Nat → Int} {R m r j : Nat} (h : j < R) : (thR ps F R m r)[j]? = some (thA ps F m r j) := by
  unfold thR
  rw [List.getElem?_map, List.getElem?_range h]
  rfl
theorem thR_first (ps : List Int) (F : Nat → Nat → Int) : thR ps F ps.length 0 0 = ps := by
  apply List.ext_getElem
  · simp [thR]
  · intro j h1 h2
    simp [thR, thA, sumN, List.getD_eq_getElem?_getD, h2]
theorem thR_next (ps : List Int) (F : Nat → Nat → Int) {R r : Nat} (m : Nat) (h : R ≤ r) : thR ps F R m r = thR ps F R (m + 1) 0 := by
  unfold thR
  refine List.map_congr_left fun j hj => ?_
  have := List.mem_range.mp hj
  unfold thA
  rw [if_pos (by omega), if_neg (by omega), sumN]
  omega
theorem thR_set (ps : List Int) (F : Nat → Nat → Int) {R r : Nat} (m : Nat) (h : r < R) : (thR ps F R m r).set r (thA ps F m r r + F m r) = thR ps F R m (r + 1) := by
  apply List.ext_getElem
  · simp [thR]
  · intro j h1 h2
    simp only [thR, List.getElem_set, List.getElem_map, List.getElem_range]
    split
    · subst_vars
      unfold thA
      rw [if_neg (by omega), if_pos (by omega)]
      omega
    · unfold thA
      by_cases q : j < r
      · rw [if_pos q, if_pos (by omega)]
      · rw [if_neg q, if_neg (by omega)]
theorem thA_after (ps : List Int) (F : Nat → Nat → Int) (m r : Nat) : thA ps F m (r + 1) r = ps.getD r 0 + sumN (fun a => F a r) (m + 1) := by
  unfold thA
  rw [if_pos (by omega), sumN]
  omega
theorem sumN_b2 {F : Nat → Int} {b : Int} (h : ∀ k, -b ≤ F k ∧ F k ≤ b) : ∀ n : Nat, -(b * n) ≤ sumN F n ∧ sumN F n ≤ b * n
  | 0 => by simp [sumN]
  | n + 1 => by
    have h1 := sumN_b2 h n
    have h2 := h n
    have h3 : b * ((n + 1 : Nat) : Int) = b * n + b := by push_cast; rw [Int.mul_add, Int.mul_one]
    rw [h3]
    simp only [sumN]
    omega
theorem sumN_sumM (G : Nat → S35 → Int) (n : Nat) : ∀ l : List S35, sumN (fun a => sumM (G a) l) n = sumM (fun x => sumN (fun a => G a x) n) l
  | [] => by simp only [sumM]; exact sumN_zero n
  | x :: l => by simp only [sumM]; rw [sumN_add, sumN_sumM G n l]
theorem sumN_pick (u : Nat) (v : Int) (p : Prop) [Decidable p] (n : Nat) : sumN (fun a => if p ∧ (u : Int) = (a : Nat) then v else 0) n = if p ∧ u < n then v else 0 := by
  by_cases hu : u < n
  · rw [sumN_eq (u := u) hu]
    · by_cases hp : p
      · rw [if_pos ⟨hp, rfl⟩, if_pos ⟨hp, hu⟩]
      · rw [if_neg (fun z => hp z.1), if_neg (fun z => hp z.1)]
    · intro a _ ha
      exact if_neg (fun z => ha (by have := z.2; omega))
  · rw [if_neg (fun z => hu z.2)]
    rw [sumN_congr (b := fun _ => 0) (fun a ha => if_neg (fun z => by have := z.2; omega)), sumN_zero]
/-- All changes up to a minute are who is there. -/
theorem ch_th {ps : List Int} {qs : List S45} {T : Int} {l : List S35} (hok : HOk ps qs) (h : ∀ x ∈ l, MvOk qs T x) (r m : Nat) : ps.getD r 0 + sumN (fun a => chM qs l a r) (m + 1) = thM ps qs l r m := by
  unfold thM chM
  rw [sumN_sumM]
  congr 1
  refine sumM_congr' fun x hx => ?_
  obtain ⟨⟨a1, a2⟩, ⟨a3, a4⟩, a5, a6, a7⟩ := h x hx
  have hq := hok.q _ (getD_mem (l := qs) (i := x.f1.toNat) (z := P.z45) (by omega))
  obtain ⟨_, _, _, _, _, _, _, q8, q9⟩ := hq
  obtain ⟨t, ht⟩ : ∃ t : Nat, x.f0 = t := ⟨x.f0.toNat, by omega⟩
  obtain ⟨k, hk⟩ : ∃ k : Nat, (qs.getD x.f1.toNat P.z45).f3 = k := ⟨(qs.getD x.f1.toNat P.z45).f3.toNat, by omega⟩
  unfold chF thF
  rw [sumN_sub, hk, ht]
  have e1 := sumN_pick (t + k) x.f2 ((qs.getD x.f1.toNat P.z45).f1 = r) (m + 1)
  have e2 := sumN_pick t x.f2 ((qs.getD x.f1.toNat P.z45).f0 = r) (m + 1)
  push_cast at e1
  rw [e1, e2]
  congr 1
  · by_cases z : (qs.getD x.f1.toNat P.z45).f1 = r ∧ t + k < m + 1
    · rw [if_pos z, if_pos ⟨z.1, by omega⟩]
    · rw [if_neg z, if_neg (fun y => z ⟨y.1, by omega⟩)]
  · by_cases z : (qs.getD x.f1.toNat P.z45).f0 = r ∧ t < m + 1
    · rw [if_pos z, if_pos ⟨z.1, by omega⟩]
    · rw [if_neg z, if_neg (fun y => z ⟨y.1, by omega⟩)]
/-- A move's changes. -/
theorem ch_out {qs : List S45} {q : S45} {l : List S35} {i T R t0 a0 : Nat} {x : S35} (hx : l[i]? = some x) (hq : qs.getD x.f1.toNat P.z45 = q) (h1 : (t0 : Int) = x.f0) (h2 : (a0 : Int) = q.f0) (h3 : q.f1 = -1) :
    mat (setF (chM qs (l.take i)) t0 a0 (chM qs (l.take i) t0 a0 - x.f2)) T R = mat (chM qs (l.take (i + 1))) T R := by
  refine mat_congr fun m r _ _ => ?_
  show setF _ _ _ _ _ _ = sumM _ _
  rw [sumM_step hx]
  show _ = chM qs (l.take i) m r + _
  unfold chF
  rw [hq]
  have d2 : (q.f0 = (r : Int) ∧ x.f0 = (m : Int)) ↔ (m = t0 ∧ r = a0) := by omega
  rw [if_neg (show ¬ (q.f1 = (r : Int) ∧ x.f0 + q.f3 = (m : Int)) by omega)]
  unfold setF
  by_cases e : m = t0 ∧ r = a0
  · rw [if_pos e, if_pos (d2.mpr e)]
    obtain ⟨rfl, rfl⟩ := e
    omega
  · rw [if_neg e, if_neg (fun z => e (d2.mp z))]
    omega
theorem ch_in {qs : List S45} {q : S45} {l : List S35} {i T R t0 a0 t1 b0 : Nat} {x : S35} (hx : l[i]? = some x) (hq : qs.getD x.f1.toNat P.z45 = q) (h1 : (t0 : Int) = x.f0) (h2 : (a0 : Int) = q.f0) (h3 : (b0 : Int) = q.f1) (h4 : (t1 : Int) = x.f0 + q.f3) :
    mat (setF (setF (chM qs (l.take i)) t0 a0 (chM qs (l.take i) t0 a0 - x.f2)) t1 b0 (setF (chM qs (l.take i)) t0 a0 (chM qs (l.take i) t0 a0 - x.f2) t1 b0 + x.f2)) T R = mat (chM qs (l.take (i + 1))) T R := by
  refine mat_congr fun m r _ _ => ?_
  show setF (setF _ _ _ _) _ _ _ _ _ = sumM _ _
  rw [sumM_step hx]
  show _ = chM qs (l.take i) m r + _
  have k0 : chM qs (l.take i) m r = sumM (chF qs r m) (l.take i) := rfl
  unfold chF
  rw [hq]
  have d1 : (q.f1 = (r : Int) ∧ x.f0 + q.f3 = (m : Int)) ↔ (m = t1 ∧ r = b0) := by omega
  have d2 : (q.f0 = (r : Int) ∧ x.f0 = (m : Int)) ↔ (m = t0 ∧ r = a0) := by omega
  unfold setF
  by_cases e : m = t1 ∧ r = b0
  · rw [if_pos e, if_pos (d1.mpr e)]
    obtain ⟨rfl, rfl⟩ := e
    by_cases e2 : m = t0 ∧ r = a0
    · rw [if_pos e2, if_pos (d2.mpr e2)]
      obtain ⟨rfl, rfl⟩ := e2
      omega
    · rw [if_neg e2, if_neg (fun z => e2 (d2.mp z))]
      omega
  · rw [if_neg e, if_neg (fun z => e (d1.mp z))]
    by_cases e2 : m = t0 ∧ r = a0
    · rw [if_pos e2, if_pos (d2.mpr e2)]
      obtain ⟨rfl, rfl⟩ := e2
      omega
    · rw [if_neg e2, if_neg (fun z => e2 (d2.mp z))]
      omega
theorem used_step {l : List S35} {i : Nat} {x : S35} (hx : l[i]? = some x) (y : S72) : E.updZ (fun y : S72 => usedM (l.take i) y.f0 y.f1) ⟨x.f1, x.f0⟩ (usedM (l.take i) x.f1 x.f0 + x.f2) y = usedM (l.take (i + 1)) y.f0 y.f1 := by
  show _ = sumM _ _
  rw [sumM_step hx]
  unfold E.updZ
  obtain ⟨a, b⟩ := y
  simp only [usedF]
  by_cases e : (⟨a, b⟩ : S72) = ⟨x.f1, x.f0⟩
  · rw [if_pos e]
    injection e with e1 e2
    rw [if_pos ⟨e2.symm, e1.symm⟩, e1, e2]
    rfl
  · rw [if_neg e, if_neg (fun z => e (by rw [z.1, z.2]))]
    show usedM _ _ _ = _
    unfold usedM
    omega
set_option maxRecDepth 100000 in
set_option maxHeartbeats 8000000 in

theorem goneP_calls (ps : List Int) (qs : List S45) (A B C : Option Addr) (c d k : Nat) (m0 : Int) (l : List S35) (w : World) (hP : Kd.C kI w A ps.length ps) (hQ : Kd.C k45 w B qs.length qs) (hX : Kd.C k35 w C l.length l) (hn1 : ps.length ≤ 1000000) (hn2 : qs.length ≤ 1000000) (hn : l.length ≤ 1000000) :
    Calls Try.prog 16 #[hv ps qs A B c d, .int .i64 m0, .slice C l.length k] w fun e w' => ∃ N E, e = .returned (.tuple #[.int .i64 N, .int .i64 E]) ∧ GoneR ps qs m0 l N E ∧ Below w.heap.size w w' := by
  have hu3 := Try.underlying3
  have hu22 := Try.underlying22
  have hu23 := Try.underlying23
  have hu25 := Try.underlying25
  have hu26 := Try.underlying26
  have hu35 := Try.underlying35
  have hu45 := Try.underlying45
  have hu68 := Try.underlying68
  have hu69 := Try.underlying69
  have hu72 := Try.underlying72
  obtain ⟨z3, o3⟩ := info_some info3s (by decide)
  obtain ⟨z22, o22⟩ := info_some info22s (by decide)
  obtain ⟨z23, o23⟩ := info_some info23s (by decide)
  obtain ⟨z25, o25⟩ := info_some info25s (by decide)
  obtain ⟨z35, o35⟩ := info_some info35s (by decide)
  obtain ⟨z45, o45⟩ := info_some info45s (by decide)
  obtain ⟨z72, o72⟩ := info_some info72s (by decide)
  refine E.enter (N := 149) Try.func16 rfl Try.ntmps16 (args := [hv ps qs A B c d, .int .i64 m0, .slice C l.length k]) (by simp) ?_
  have L := Below.refl w.heap.size w
  refine E.CG.seq ?_
  refine E.CG.list ?_
  refine E.GL.st rfl rfl rfl (E.ST.box rfl rfl fun g3 w3 e3 b3 l3 => ?_)
  have h3_L : w.heap.size ≤ g3 := by rw [e3]; exact L.size
  replace L := below_step L l3
  refine E.GL.run rfl rfl rfl (E.Runs.assign rfl rfl) ?_
  refine E.GL.run rfl rfl rfl (E.Runs.assign rfl rfl) ?_
  refine E.GL.done ?_
  refine E.QG.code ?_
  refine E.CG.seq ?_
  refine E.CG.seq ?_
  refine E.CG.list ?_
  refine E.GL.run rfl rfl rfl (E.Runs.loads (cs := [.slice A ps.length c, .slice B qs.length d]) rfl rfl hu25 rfl info25s (blk_cells b3)) ?_
  refine E.GL.run rfl rfl rfl (E.Runs.move rfl rfl) ?_
  refine E.GL.st rfl rfl rfl (E.ST.call rfl ent45 (E.evc rfl (E.evc rfl E.evn)) ((chk45 ps qs A B c d _ (Kd.C_below hP L) (Kd.C_below hQ L) hn1 hn2 m0).mono ?_))
  rintro e w24 ⟨rfl, l24⟩
  refine ⟨_, rfl, ?_⟩
  replace b3 := blk_below b3 l24
  replace L := below_step L l24
  refine E.GL.run rfl rfl rfl (E.Runs.assign rfl rfl) ?_
  refine E.GL.done ?_
  refine E.QG.code ?_
  refine E.CG.seq ?_
  refine E.CG.list ?_
  refine E.GL.run rfl rfl rfl (E.Runs.move rfl rfl) ?_
  refine E.GL.cmpn rfl rfl rfl (fun _ h => (E.Runs.neq rfl rfl rfl h)) (fun h26 => ?_) (fun h26 => ?_)
  · refine E.GL.done ?_
    refine E.QG.code ?_
    refine E.CG.cond_t rfl ?_
    refine E.CG.seq ?_
    refine E.CG.list ?_
    refine E.GL.run rfl rfl rfl (E.Runs.move rfl rfl) ?_
    refine E.GL.run rfl rfl rfl (E.Runs.assign rfl rfl) ?_
    refine E.GL.run rfl rfl rfl (E.Runs.assign rfl rfl) ?_
    refine E.GL.done ?_
    refine E.QG.code ?_
    refine E.CG.ret ?_
    refine E.QG.pass_ret ?_
    exact E.QG.result2 rfl rfl rfl ⟨_, _, rfl, ⟨fun _ => ⟨rfl, rfl⟩, fun k => absurd k h26⟩, L⟩
  · have hE := h26
    obtain ⟨hH, hm0, hm1⟩ := chkE_ok.mp h26
    obtain ⟨T, rfl⟩ : ∃ T : Nat, m0 = T := ⟨m0.toNat, by omega⟩
    have hT : T ≤ 60 := by omega
    have hr6 := hH.r6
    have hq12 := hH.q12
    refine E.GL.done ?_
    refine E.QG.code ?_
    refine E.CG.cond_f rfl ?_
    refine E.CG.skip ?_
    refine E.QG.code ?_
    refine E.CG.seq ?_
    refine E.CG.list ?_
    refine E.GL.run rfl rfl rfl (E.Runs.move rfl rfl) ?_
    refine E.GL.run rfl rfl rfl (E.Runs.add rfl rfl rfl (IntWalk.i64_in _ (by omega))) ?_
    refine E.GL.st rfl rfl rfl (E.ST.makeB (m := T + 1) rfl (by push_cast; rfl) (by push_cast; rfl) hu68 info22 rfl (by omega) fun gO w30 e30 bO l30 => ?_)
    have hgO : w.heap.size ≤ gO := by rw [e30]; exact L.size
    replace b3 := blk_below b3 l30
    replace L := below_step L l30
    refine E.GL.run rfl rfl rfl (E.Runs.assign rfl rfl) ?_
    refine E.GL.done ?_
    refine E.QG.code ?_
    refine E.CG.seq ?_
    refine E.CG.seq ?_
    refine E.CG.list ?_
    refine E.GL.run rfl rfl rfl (E.Runs.move rfl rfl) ?_
    refine E.GL.run rfl rfl rfl (E.Runs.len rfl rfl hu68) ?_
    refine E.GL.run rfl rfl rfl (E.Runs.move rfl rfl) ?_
    refine E.GL.done ?_
    refine E.QG.code ?_
    refine E.CG.block ?_
    have hM : ∃ vs, Gz w _ g3 gO [.slice A ps.length c, .slice B qs.length d] (mkR 0 T ps.length) vs ∧ ∀ j, 0 ≤ j → j < T + 1 → vs[j]? = some (.slice none 0 0) := ⟨_, ⟨b3, by rw [mkR_first]; exact Rows.fresh _ _ _ hgO bO, L, L.size⟩, fun j _ hj => by rw [List.getElem?_replicate, if_pos hj]⟩
    have s6_b3 := b3
    have s6_L := L
    refine E.CG.loop (fun (i : Nat) => [(1, .int .i64 (T : Int)), (2, .slice C l.length k), (3, .pointer (some ⟨g3, 0, none⟩)), (9, .slice (some ⟨gO, 0, none⟩) (T + 1) (T + 1)), (32, .int .i64 ((T + 1 : Nat) : Int)), (33, .int .i64 i)]) (fun i w' => i ≤ T + 1 ∧ ∃ vs, Gz w w' g3 gO [.slice A ps.length c, .slice B qs.length d] (mkR i T ps.length) vs ∧ ∀ j, i ≤ j → j < T + 1 → vs[j]? = some (.slice none 0 0)) (fun i => T + 1 - i) 0 (E.subc rfl (E.subc rfl (E.subc rfl (E.subc rfl (E.subc rfl (E.subc rfl E.subn)))))) ⟨Nat.zero_le _, hM⟩ ?_
    rintro i w6 ⟨hi, vs, hM, hnil⟩
    refine E.CG.seq ?_
    refine E.CG.list ?_
    refine E.GL.cmp rfl rfl rfl (fun _ h => (E.Runs.lss rfl rfl rfl h)) (fun h34 => ?_) (fun h34 => ?_)
    · refine E.GL.done ?_
      refine E.QG.code ?_
      refine E.CG.seq ?_
      refine E.CG.cond_t rfl ?_
      refine E.CG.skip ?_
      refine E.QG.code ?_
      refine E.CG.seq ?_
      refine E.CG.block ?_
      refine E.CG.seq ?_
      refine E.CG.list ?_
      refine E.GL.run rfl rfl rfl (E.Runs.move rfl rfl) ?_
      refine E.GL.run rfl rfl rfl (E.Runs.assign rfl rfl) ?_
      refine E.GL.done ?_
      refine E.QG.code ?_
      refine E.CG.list ?_
      refine E.GL.run rfl rfl rfl (E.Runs.move rfl rfl) ?_
      refine E.GL.run rfl rfl rfl (E.Runs.move rfl rfl) ?_
      refine E.GL.run rfl rfl rfl (E.Runs.fieldAddr rfl rfl hu25 rfl (by assumption) rfl) ?_
      refine E.GL.run rfl rfl rfl (E.Runs.load1 rfl rfl hu22 rfl (E.blkc hM.b3 rfl)) ?_
      refine E.GL.run rfl rfl rfl (E.Runs.len rfl rfl hu22) ?_
      refine E.GL.st rfl rfl rfl (E.ST.makeR kI w.heap.size 3 rfl rfl rfl rfl hu22 (.int .i64 0) 8 info3 rfl (by decide) (by decide) 0 rfl (by omega) hM.bel hM.size fun v41 w41 r41 k41 l41 o41 => ?_)
      refine E.GL.run rfl rfl rfl (E.Runs.indexAddrA (i := i) rfl rfl rfl hu68 z22 o22 (by omega) rfl (show _ = (⟨gO, i * 1, none⟩ : Addr) from by rw [Go.Addr.add_mid, Nat.zero_add])) ?_
      obtain ⟨hc87, hf87, hM87⟩ := hM.made (mkR_at (by omega)) l41 r41 (hnil i (Nat.le_refl _) (by omega)) o41
      obtain ⟨A41, c41, hv41⟩ := Kd.R_slice r41
      rw [List.length_replicate] at hv41
      subst hv41
      refine E.GL.sn rfl rfl (E.ST.storeC rfl z22 o22 rfl rfl (.inr ⟨_, _, _, rfl⟩) hc87 hf87 ?_)
      obtain ⟨wS, hwS⟩ : ∃ z, z = w41.setCell ⟨gO, i * 1, none⟩ (.slice A41 ps.length c41) := ⟨_, rfl⟩
      rw [← hwS] at hM87 ⊢
      rw [mkR_set (by omega)] at hM87
      clear hM hc87 hf87 k41 l41
      have hM := hM87
      clear hM87
      refine E.GL.done ?_
      refine E.QG.block_normal ?_
      refine E.QG.code ?_
      refine E.CG.list ?_
      refine E.GL.run rfl rfl rfl (E.Runs.add rfl rfl rfl (IntWalk.i64_in _ (by omega))) ?_
      refine E.GL.run rfl rfl rfl (E.Runs.move rfl rfl) ?_
      refine E.GL.done ?_
      exact E.QG.round (i + 1) (E.subc rfl (E.subc rfl (E.subc rfl (E.subc rfl (E.subc rfl (E.subc rfl E.subn)))))) ⟨by omega, _, hM, fun j h1 h2 => by rw [List.getElem?_set_ne (by omega)]; exact hnil j (by omega) h2⟩ (by omega)
    · refine E.GL.done ?_
      refine E.QG.code ?_
      refine E.CG.seq ?_
      refine E.CG.cond_f rfl ?_
      refine E.CG.exit ?_
      refine E.QG.pass_exit ?_
      refine E.QG.pass_exit ?_
      refine E.QG.block_here ?_
      refine E.QG.code ?_
      refine E.CG.seq ?_
      refine E.CG.list ?_
      refine E.GL.st rfl rfl rfl (E.ST.makeMap ek72 evI rfl fun gM w44 eM m44 l44 => ?_)
      rw [mkR_last (by omega)] at hM
      have hM44 : Gs w w44 g3 gO gM [.slice A ps.length c, .slice B qs.length d] (mat (fun _ _ => 0) T ps.length) vs (fun _ => 0) := ⟨blk_below hM.b3 l44, hM.rows.below l44, ⟨_, m44, fun x => rfl⟩, by rw [eM]; exact hM.size, below_step' hM.bel hM.size l44, Nat.le_trans hM.size l44.size⟩
      clear hM
      have hM := hM44
      clear hM44 m44
      refine E.GL.run rfl rfl rfl (E.Runs.assign rfl rfl) ?_
      refine E.GL.done ?_
      refine E.QG.code ?_
      refine E.CG.seq ?_
      refine E.CG.list ?_
      refine E.GL.run rfl rfl rfl (E.Runs.assign rfl rfl) ?_
      refine E.GL.done ?_
      refine E.QG.code ?_
      refine E.CG.seq ?_
      refine E.CG.seq ?_
      refine E.CG.list ?_
      refine E.GL.run rfl rfl rfl (E.Runs.move rfl rfl) ?_
      refine E.GL.run rfl rfl rfl (E.Runs.len rfl rfl hu26) ?_
      refine E.GL.run rfl rfl rfl (E.Runs.move rfl rfl) ?_
      refine E.GL.done ?_
      refine E.QG.code ?_
      refine E.CG.block ?_
      refine E.CG.loop (fun (i : Nat) => [(1, .int .i64 (T : Int)), (2, .slice C l.length k), (3, .pointer (some ⟨g3, 0, none⟩)), (9, .slice (some ⟨gO, 0, none⟩) (T + 1) (T + 1)), (11, .map (some gM)), (12, .int .i64 (outM qs (l.take i))), (45, .slice C l.length k), (46, .int .i64 l.length), (47, .int .i64 i)]) (fun i w' => i ≤ l.length ∧ Gs w w' g3 gO gM [.slice A ps.length c, .slice B qs.length d] (mat (chM qs (l.take i)) T ps.length) vs (fun y : S72 => usedM (l.take i) y.f0 y.f1) ∧ ∀ k, k < i → ∀ x, l[k]? = some x → Mv1 qs T l k x) (fun i => l.length - i) 0 (E.subc rfl (E.subc rfl (E.subc rfl (E.subc rfl (E.subc rfl (E.subc rfl (E.subc rfl (E.subc rfl (E.subc rfl E.subn))))))))) ⟨Nat.zero_le _, hM, fun k hk => by omega⟩ ?_
      rintro i w13 ⟨hi, hM, hmv⟩
      refine E.CG.seq ?_
      refine E.CG.list ?_
      refine E.GL.cmp rfl rfl rfl (fun _ h => (E.Runs.lss rfl rfl rfl h)) (fun h48 => ?_) (fun h48 => ?_)
      · obtain ⟨x, hx⟩ : ∃ x, l[i]? = some x := ⟨_, List.getElem?_eq_getElem (by omega)⟩
        obtain ⟨ad, eA, X⟩ := move_at hX hx
        refine E.GL.done ?_
        refine E.QG.code ?_
        refine E.CG.seq ?_
        refine E.CG.cond_t rfl ?_
        refine E.CG.skip ?_
        refine E.QG.code ?_
        refine E.CG.seq ?_
        refine E.CG.block ?_
        refine E.CG.seq ?_
        refine E.CG.list ?_
        refine E.GL.run rfl rfl rfl (E.Runs.indexAddrA rfl rfl rfl hu26 z35 o35 (show (i : Int) < l.length by omega) eA rfl) ?_
        refine E.GL.run rfl rfl rfl (E.Runs.loads (cs := [.int .i64 x.f0, .int .i64 x.f1, .int .i64 x.f2]) rfl rfl hu35 rfl info35s (fun j v hv => pw_cell_below hM.bel (X j v hv))) ?_
        have hsz14 := hM.size
        refine E.GL.st rfl rfl rfl (E.ST.alloc rfl info35z fun g14 w14 e14 b14 l14 => ?_)
        replace hM := hM.below l14
        have hg14 : w.heap.size ≤ g14 := by rw [e14]; exact hsz14
        refine E.GL.store_whole rfl rfl rfl rfl rfl b14 rfl info35s (three_one _ _ _) fun wS14_3 c14 lS14_3 => ?_
        replace hM := hM.grown lS14_3 (by first | exact ⟨⟨_, _, b14, by decide, by decide, by decide⟩, hg14⟩ | exact ⟨⟨_, _, b15, by decide, by decide, by decide⟩, hg15⟩ | exact ⟨⟨_, _, b16, by decide, by decide, by decide⟩, hg16⟩ | fail)
        replace b14 := c14
        clear c14
        refine E.GL.done ?_
        refine E.QG.code ?_
        refine E.CG.seq ?_
        refine E.CG.seq ?_
        refine E.CG.list ?_
        refine E.GL.run rfl rfl rfl (E.Runs.loads (cs := [.slice A ps.length c, .slice B qs.length d]) rfl rfl hu25 rfl info25s (blk_cells hM.b3)) ?_
        refine E.GL.run rfl rfl rfl (E.Runs.move rfl rfl) ?_
        refine E.GL.run rfl rfl rfl (E.Runs.loads (cs := [.int .i64 x.f0, .int .i64 x.f1, .int .i64 x.f2]) rfl rfl hu35 rfl info35s (blk_cells b14)) ?_
        by_cases h54 : IsMv qs T x
        · obtain ⟨⟨_, _⟩, ⟨_, _⟩, hv1, hv2, hv3⟩ := id h54
          obtain ⟨u, hu1⟩ : ∃ u : Nat, (u : Int) = x.f1 := ⟨x.f1.toNat, by omega⟩
          have hul : u < qs.length := by omega
          obtain ⟨q, hq⟩ : ∃ q, q = qs.getD u P.z45 := ⟨_, rfl⟩
          have hqu : qs.getD x.f1.toNat P.z45 = q := by rw [hq, ← hu1, Int.toNat_natCast]
          rw [hqu] at hv2 hv3
          obtain ⟨aQ, eQ, cQ⟩ := pass_at hQ (show qs[u]? = some q by rw [hq]; exact getD_some hul _)
          obtain ⟨hq1, hq2, hq3, hq4, hq5, hq6, hq7, hq8, hq9⟩ := hH.q q (by rw [hq]; exact getD_mem hul)
          obtain ⟨t0, ht0⟩ : ∃ u : Nat, (u : Int) = x.f0 := ⟨x.f0.toNat, by omega⟩
          obtain ⟨a0, ha0⟩ : ∃ u : Nat, (u : Int) = q.f0 := ⟨q.f0.toNat, by omega⟩
          have hmo : MvOk qs T x := ⟨⟨by omega, by omega⟩, ⟨by omega, by omega⟩, by omega, by omega, by rw [hqu]; omega⟩
          have hub := usedM_b (fun k hk x hx => (hmv k hk x hx).1) x.f1 x.f0 (n := i)
          have hcb := fun m r => chM_b (qs := qs) (T := T) (l := l) (n := i) (fun k hk x hx => (hmv k hk x hx).1) (by omega) m r
          have hst := sumM_step (h := outF qs) hx
          have hob := outM_b (mvIn_of (qs := qs) (l := l.take i) (n := i) (fun k hk x hx => by rw [List.getElem?_take, if_pos hk] at hx; exact (hmv k hk x hx).1) (by rw [List.length_take]; omega))
          have hlt : (l.take i).length ≤ l.length := by rw [List.length_take]; omega
          refine E.GL.st rfl rfl rfl (E.ST.call rfl ent46 (E.evc rfl (E.evc rfl (E.evc rfl E.evn))) ((isMove_calls ps qs A B c d T x true hH (iff_of_true rfl h54) _ (Kd.C_below hQ hM.bel) hT).mono ?_))
          rintro e w54 ⟨rfl, l54⟩
          refine ⟨_, rfl, ?_⟩
          replace b14 := blk_below b14 l54
          replace hM := hM.below l54
          refine E.GL.run rfl rfl rfl (E.Runs.not rfl rfl) ?_
          refine E.GL.done ?_
          refine E.QG.code ?_
          refine E.CG.cond_f rfl ?_
          refine E.CG.skip ?_
          refine E.QG.code ?_
          refine E.CG.seq ?_
          refine E.CG.list ?_
          refine E.GL.run rfl rfl rfl (E.Runs.fieldAddr rfl rfl hu25 rfl (by assumption) rfl) ?_
          refine E.GL.run rfl rfl rfl (E.Runs.load1 rfl rfl hu23 rfl (E.blkc hM.b3 rfl)) ?_
          refine E.GL.run rfl rfl rfl (E.Runs.fieldAddr rfl rfl hu35 rfl (by assumption) rfl) ?_
          refine E.GL.run rfl rfl rfl (E.Runs.load rfl rfl hu3 (by first | assumption | exact E.blkc (by assumption) rfl)) ?_
          refine E.GL.run rfl rfl rfl (E.Runs.indexAddrA (i := u) rfl rfl (by rw [hu1]; rfl) hu23 z45 o45 (show (u : Int) < qs.length by omega) eQ rfl) ?_
          refine E.GL.run rfl rfl rfl (E.Runs.loads (cs := [.int .i64 q.f0, .int .i64 q.f1, .int .i64 q.f2, .int .i64 q.f3]) rfl rfl hu45 rfl info45s (fun j v hv => pw_cell_below hM.bel (cQ j v hv))) ?_
          have hsz15 := hM.size
          refine E.GL.st rfl rfl rfl (E.ST.alloc rfl info45z fun g15 w15 e15 b15 l15 => ?_)
          have n15_b14 : g14 ≠ g15 := by have := blk_lt b14; omega
          replace b14 := blk_below b14 l15
          replace hM := hM.below l15
          have hg15 : w.heap.size ≤ g15 := by rw [e15]; exact hsz15
          refine E.GL.store_whole rfl rfl rfl rfl rfl b15 rfl info45s (four_one _ _ _ _) fun wS17_7 c15 lS17_7 => ?_
          replace b14 := blk_grown b14 lS17_7 (E.nes (by first | assumption | exact Ne.symm (by assumption)))
          replace hM := hM.grown lS17_7 (by first | exact ⟨⟨_, _, b14, by decide, by decide, by decide⟩, hg14⟩ | exact ⟨⟨_, _, b15, by decide, by decide, by decide⟩, hg15⟩ | exact ⟨⟨_, _, b16, by decide, by decide, by decide⟩, hg16⟩ | fail)
          replace b15 := c15
          clear c15
          refine E.GL.done ?_
          refine E.QG.code ?_
          refine E.CG.seq ?_
          refine E.CG.list ?_
          refine E.GL.run rfl rfl rfl (E.Runs.fieldAddr rfl rfl hu35 rfl (by assumption) rfl) ?_
          refine E.GL.run rfl rfl rfl (E.Runs.load rfl rfl hu3 (by first | assumption | exact E.blkc (by assumption) rfl)) ?_
          refine E.GL.run rfl rfl rfl (E.Runs.fieldAddr rfl rfl hu35 rfl (by assumption) rfl) ?_
          refine E.GL.run rfl rfl rfl (E.Runs.load rfl rfl hu3 (by first | assumption | exact E.blkc (by assumption) rfl)) ?_
          refine E.GL.run rfl rfl rfl (E.Runs.build rfl (E.epc rfl (E.epc rfl E.epn)) (build72b _ _)) ?_
          have hsz16 := hM.size
          refine E.GL.st rfl rfl rfl (E.ST.alloc rfl info72z fun g16 w16 e16 b16 l16 => ?_)
          have n16_b14 : g14 ≠ g16 := by have := blk_lt b14; omega
          have n16_b15 : g15 ≠ g16 := by have := blk_lt b15; omega
          replace b14 := blk_below b14 l16
          replace b15 := blk_below b15 l16
          replace hM := hM.below l16
          have hg16 : w.heap.size ≤ g16 := by rw [e16]; exact hsz16
          refine E.GL.store_whole rfl rfl rfl rfl rfl b16 rfl info72s (two_one _ _) fun wS18_6 c16 lS18_6 => ?_
          replace b14 := blk_grown b14 lS18_6 (E.nes (by first | assumption | exact Ne.symm (by assumption)))
          replace b15 := blk_grown b15 lS18_6 (E.nes (by first | assumption | exact Ne.symm (by assumption)))
          replace hM := hM.grown lS18_6 (by first | exact ⟨⟨_, _, b14, by decide, by decide, by decide⟩, hg14⟩ | exact ⟨⟨_, _, b15, by decide, by decide, by decide⟩, hg15⟩ | exact ⟨⟨_, _, b16, by decide, by decide, by decide⟩, hg16⟩ | fail)
          replace b16 := c16
          clear c16
          refine E.GL.done ?_
          refine E.QG.code ?_
          refine E.CG.seq ?_
          refine E.CG.seq ?_
          refine E.CG.heldJ 8 (fun v W => v.grownBy W (some gM) ∧ (E.Mz ek72 evI 0 v gM (fun y : S72 => usedM (l.take i) y.f0 y.f1) → E.Mz ek72 evI 0 W gM (fun y : S72 => usedM (l.take i) y.f0 y.f1))) (fun _ _ => True) (by kernel_rfl) (by kernel_rfl) (fun v => ⟨World.grownBy.refl _ _, fun h => h⟩) fun v19 lD => ?_
          replace b14 := blk_below b14 lD
          replace b15 := blk_below b15 lD
          replace b16 := blk_below b16 lD
          replace hM := hM.below lD
          have lD19 := lD
          clear lD
          have n14M := map_ne hM.mp b14
          have n15M := map_ne hM.mp b15
          have n16M := map_ne hM.mp b16
          have s_b14 := b14
          have s_b15 := b15
          have s_b16 := b16
          have s_hM := hM
          have hh : v19.grownBy v19 (some gM) := World.grownBy.refl _ _
          refine E.GJ.take1 (i := 0) rfl (by kernel_rfl) (by kernel_rfl) (by kernel_rfl) (by kernel_rfl) rfl (by kernel_rfl) (by kernel_rfl) (by intro c a d v w h; cases d <;> exact h) rfl rfl rfl (fun w' hS => (E.Runs.move rfl rfl)) ?_
          refine E.GJ.take1 (i := 1) rfl (by kernel_rfl) (by kernel_rfl) (by kernel_rfl) (by kernel_rfl) rfl (by kernel_rfl) (by kernel_rfl) (by intro c a d v w h; cases d <;> exact h) rfl rfl rfl (fun w' hS => (E.Runs.loads (cs := [.int .i64 x.f1, .int .i64 x.f0]) rfl rfl hu72 rfl info72s (blk_cells (blk_grown b16 hS.1 (E.nes n16M))))) ?_
          refine E.GJ.take1 (i := 2) rfl (by kernel_rfl) (by kernel_rfl) (by kernel_rfl) (by kernel_rfl) rfl (by kernel_rfl) (by kernel_rfl) (by intro c a d v w h; cases d <;> exact h) rfl rfl rfl (fun w' hS => (lookU (v := usedM (l.take i) x.f1 x.f0) rfl rfl rfl (hS.2 hM.mp) rfl)) ?_
          refine E.GJ.take1 (i := 3) rfl (by kernel_rfl) (by kernel_rfl) (by kernel_rfl) (by kernel_rfl) rfl (by kernel_rfl) (by kernel_rfl) (by intro c a d v w h; cases d <;> exact h) rfl rfl rfl (fun w' hS => (E.Runs.fieldAddr rfl rfl hu35 rfl (by assumption) rfl)) ?_
          refine E.GJ.take1 (i := 4) rfl (by kernel_rfl) (by kernel_rfl) (by kernel_rfl) (by kernel_rfl) rfl (by kernel_rfl) (by kernel_rfl) (by intro c a d v w h; cases d <;> exact h) rfl rfl rfl (fun w' hS => (E.Runs.load rfl rfl hu3 (E.keeps hS.1 (E.blkc b14 rfl) (E.nes n14M)))) ?_
          refine E.GJ.take1 (i := 5) rfl (by kernel_rfl) (by kernel_rfl) (by kernel_rfl) (by kernel_rfl) rfl (by kernel_rfl) (by kernel_rfl) (by intro c a d v w h; cases d <;> exact h) rfl rfl rfl (fun w' hS => (E.Runs.add rfl rfl rfl (IntWalk.i64_in _ (by omega)))) ?_
          refine E.GJ.one (i := 6) (by kernel_rfl) (E.OJ.st rfl rfl rfl rfl (E.ST.mapEntry (z := (0 : Int)) (ev := evI) rfl rfl k72T ⟨x.f1, x.f0⟩ rfl hu69 zero3I hM.mp fun w73 s73 hS73 l73 => ⟨(E.SJ.before (by kernel_rfl)).mpr ⟨l73, fun _ => hS73.mz⟩, ?_⟩))
          replace b14 := blk_grown b14 l73 (E.nes n14M)
          replace b15 := blk_grown b15 l73 (E.nes n15M)
          replace b16 := blk_grown b16 l73 (E.nes n16M)
          replace hM := hM.mapped l73 hS73.mz
          refine E.GJ.take1 (i := 7) rfl (by kernel_rfl) (by kernel_rfl) (by kernel_rfl) (by kernel_rfl) rfl (by kernel_rfl) (by kernel_rfl) (by intro c a d v w h; cases d <;> exact h) rfl rfl rfl (fun w' hS => (E.Runs.extract rfl rfl rfl)) ?_
          refine E.GJ.one (i := 8) (by kernel_rfl) (E.OJ.sn rfl rfl rfl (E.ST.entryStore (v := usedM (l.take i) x.f1 x.f0 + x.f2) rfl rfl rfl rfl k72T hS73 fun w19 hm19 l19 => ⟨(E.SJ.behind (by kernel_rfl)).mpr trivial, ?_⟩))
          replace b14 := blk_grown b14 l19 (E.nes n14M)
          replace b15 := blk_grown b15 l19 (E.nes n15M)
          replace b16 := blk_grown b16 l19 (E.nes n16M)
          replace hM := hM.mapped l19 (hm19.congr (used_step hx))
          clear hm19 l19 l73 hS73
          refine E.GJ.done (by kernel_rfl) ?_
          refine E.QG.code ?_
          refine E.CG.seq ?_
          refine E.CG.quietF (by kernel_rfl) rfl (by kernel_rfl) (by kernel_rfl) ?_
          refine E.GQ.run rfl rfl rfl (E.Runs.move rfl rfl) ?_
          refine E.GQ.run rfl rfl rfl (E.Runs.loads (cs := [.int .i64 x.f1, .int .i64 x.f0]) rfl rfl hu72 rfl info72s (blk_cells b16)) ?_
          refine E.GQ.run rfl rfl rfl (lookU (v := usedM (l.take (i + 1)) x.f1 x.f0) rfl rfl rfl hM.mp rfl) ?_
          refine E.GQ.run rfl rfl rfl (E.Runs.fieldAddr rfl rfl hu45 rfl (by assumption) rfl) ?_
          refine E.GQ.run rfl rfl rfl (E.Runs.load rfl rfl hu3 (by first | assumption | exact E.blkc (by assumption) rfl)) ?_
          refine E.GQ.cmp rfl rfl rfl (fun _ h => (E.Runs.gtr rfl rfl rfl h)) (fun h80 => ?_) (fun h80 => ?_)
          · refine E.GQ.doneB fun v20 lD => ?_
            replace b14 := blk_below b14 lD
            replace b15 := blk_below b15 lD
            replace b16 := blk_below b16 lD
            replace hM := hM.below lD
            have lD20 := lD
            clear lD
            refine E.QG.code ?_
            refine E.CG.cond_t rfl ?_
            refine E.CG.seq ?_
            refine E.CG.list ?_
            refine E.GL.run rfl rfl rfl (E.Runs.assign rfl rfl) ?_
            refine E.GL.run rfl rfl rfl (E.Runs.assign rfl rfl) ?_
            refine E.GL.done ?_
            refine E.QG.code ?_
            refine E.CG.ret ?_
            refine E.QG.pass_ret ?_
            refine E.QG.block_ret ?_
            refine E.QG.pass_ret ?_
            refine E.QG.pass_ret ?_
            refine E.QG.block_ret ?_
            refine E.QG.pass_ret ?_
            exact E.QG.result2 rfl rfl rfl ⟨_, _, rfl, ⟨fun k => absurd hE k, fun _ => ⟨fun k => by rw [Int.toNat_natCast] at k; exact absurd k (fun k => by have := (k.mv i x hx).2; rw [hqu] at this; omega), fun _ => ⟨rfl, rfl⟩⟩⟩, hM.bel⟩
          · refine E.GQ.doneB fun v20 lD => ?_
            replace b14 := blk_below b14 lD
            replace b15 := blk_below b15 lD
            replace b16 := blk_below b16 lD
            replace hM := hM.below lD
            have lD20 := lD
            clear lD
            refine E.QG.code ?_
            refine E.CG.cond_f rfl ?_
            refine E.CG.skip ?_
            refine E.QG.code ?_
            refine E.CG.seq ?_
            refine E.CG.heldJ 13 (fun v W => v.grownBy W (none)) (fun _ _ => True) (by kernel_rfl) (by kernel_rfl) (fun v => World.grownBy.refl _ _) fun v22 lD => ?_
            replace b14 := blk_below b14 lD
            replace b15 := blk_below b15 lD
            replace b16 := blk_below b16 lD
            replace hM := hM.below lD
            have lD22 := lD
            clear lD
            have hat : t0 ≤ T := by omega
            have har : a0 < ps.length := by omega
            obtain ⟨AE, cE1, gF, cE, eE, cF, fF, stF⟩ := hM.entry hat har
            have hcb0 := hcb t0 a0
            have s_b14 := b14
            have s_b15 := b15
            have s_b16 := b16
            have s_hM := hM
            refine E.GJ.take1 (i := 0) rfl (by kernel_rfl) (by kernel_rfl) (by kernel_rfl) (by kernel_rfl) rfl (by kernel_rfl) (by kernel_rfl) (by intro c a d v w h; cases d <;> exact h) rfl rfl rfl (fun w' hS => (E.Runs.move rfl rfl)) ?_
            refine E.GJ.take1 (i := 1) rfl (by kernel_rfl) (by kernel_rfl) (by kernel_rfl) (by kernel_rfl) rfl (by kernel_rfl) (by kernel_rfl) (by intro c a d v w h; cases d <;> exact h) rfl rfl rfl (fun w' hS => (E.Runs.fieldAddr rfl rfl hu35 rfl (by assumption) rfl)) ?_
            refine E.GJ.take1 (i := 2) rfl (by kernel_rfl) (by kernel_rfl) (by kernel_rfl) (by kernel_rfl) rfl (by kernel_rfl) (by kernel_rfl) (by intro c a d v w h; cases d <;> exact h) rfl rfl rfl (fun w' hS => (E.Runs.load rfl rfl hu3 (by first | exact E.keeps hS (E.blkc (by assumption) rfl) (by first | exact E.nen | exact E.nes (by assumption) | exact E.nes (Ne.symm (by assumption)))))) ?_
            refine E.GJ.take1 (i := 3) rfl (by kernel_rfl) (by kernel_rfl) (by kernel_rfl) (by kernel_rfl) rfl (by kernel_rfl) (by kernel_rfl) (by intro c a d v w h; cases d <;> exact h) rfl rfl rfl (fun w' hS => (E.Runs.indexAddrA (i := t0) rfl rfl (by rw [ht0]; rfl) hu68 z22 o22 (by omega) rfl (show _ = (⟨gO, t0 * 1, none⟩ : Addr) from by rw [Go.Addr.add_mid, Nat.zero_add]))) ?_
            refine E.GJ.take1 (i := 4) rfl (by kernel_rfl) (by kernel_rfl) (by kernel_rfl) (by kernel_rfl) rfl (by kernel_rfl) (by kernel_rfl) (by intro c a d v w h; cases d <;> exact h) rfl rfl rfl (fun w' hS => (E.Runs.load1 rfl rfl hu22 rfl (E.keeps hS cE E.nen))) ?_
            refine E.GJ.take1 (i := 5) rfl (by kernel_rfl) (by kernel_rfl) (by kernel_rfl) (by kernel_rfl) rfl (by kernel_rfl) (by kernel_rfl) (by intro c a d v w h; cases d <;> exact h) rfl rfl rfl (fun w' hS => (E.Runs.fieldAddr rfl rfl hu45 rfl (by assumption) rfl)) ?_
            refine E.GJ.take1 (i := 6) rfl (by kernel_rfl) (by kernel_rfl) (by kernel_rfl) (by kernel_rfl) rfl (by kernel_rfl) (by kernel_rfl) (by intro c a d v w h; cases d <;> exact h) rfl rfl rfl (fun w' hS => (E.Runs.load rfl rfl hu3 (by first | exact E.keeps hS (E.blkc (by assumption) rfl) (by first | exact E.nen | exact E.nes (by assumption) | exact E.nes (Ne.symm (by assumption)))))) ?_
            refine E.GJ.take1 (i := 7) rfl (by kernel_rfl) (by kernel_rfl) (by kernel_rfl) (by kernel_rfl) rfl (by kernel_rfl) (by kernel_rfl) (by intro c a d v w h; cases d <;> exact h) rfl rfl rfl (fun w' hS => (E.Runs.indexAddrA (i := a0) rfl rfl (by first | rfl | rw [ha0]; rfl) hu22 z3 o3 (by omega) eE (show _ = (⟨gF, a0 * 1, none⟩ : Addr) from by rw [Go.Addr.add_mid, Nat.zero_add]))) ?_
            refine E.GJ.take1 (i := 8) rfl (by kernel_rfl) (by kernel_rfl) (by kernel_rfl) (by kernel_rfl) rfl (by kernel_rfl) (by kernel_rfl) (by intro c a d v w h; cases d <;> exact h) rfl rfl rfl (fun w' hS => (E.Runs.load rfl rfl hu3 (E.keeps hS cF E.nen))) ?_
            refine E.GJ.take1 (i := 9) rfl (by kernel_rfl) (by kernel_rfl) (by kernel_rfl) (by kernel_rfl) rfl (by kernel_rfl) (by kernel_rfl) (by intro c a d v w h; cases d <;> exact h) rfl rfl rfl (fun w' hS => (E.Runs.fieldAddr rfl rfl hu35 rfl (by assumption) rfl)) ?_
            refine E.GJ.take1 (i := 10) rfl (by kernel_rfl) (by kernel_rfl) (by kernel_rfl) (by kernel_rfl) rfl (by kernel_rfl) (by kernel_rfl) (by intro c a d v w h; cases d <;> exact h) rfl rfl rfl (fun w' hS => (E.Runs.load rfl rfl hu3 (by first | exact E.keeps hS (E.blkc (by assumption) rfl) (by first | exact E.nen | exact E.nes (by assumption) | exact E.nes (Ne.symm (by assumption)))))) ?_
            refine E.GJ.take1 (i := 11) rfl (by kernel_rfl) (by kernel_rfl) (by kernel_rfl) (by kernel_rfl) rfl (by kernel_rfl) (by kernel_rfl) (by intro c a d v w h; cases d <;> exact h) rfl rfl rfl (fun w' hS => (E.Runs.sub rfl rfl rfl (IntWalk.i64_in _ (by omega)))) ?_
            refine E.GJ.take1 (i := 12) rfl (by kernel_rfl) (by kernel_rfl) (by kernel_rfl) (by kernel_rfl) rfl (by kernel_rfl) (by kernel_rfl) (by intro c a d v w h; cases d <;> exact h) rfl rfl rfl (fun w' hS => (E.Runs.indexAddrA (i := a0) rfl rfl (by first | rfl | rw [ha0]; rfl) hu22 z3 o3 (by omega) eE (show _ = (⟨gF, a0 * 1, none⟩ : Addr) from by rw [Go.Addr.add_mid, Nat.zero_add]))) ?_
            refine E.GJ.one (i := 13) (by kernel_rfl) (E.OJ.sn rfl rfl rfl (E.ST.storeN rfl z3 o3 rfl rfl cF fF ⟨(E.SJ.behind (by kernel_rfl)).mpr trivial, ?_⟩))
            obtain ⟨w22, hw22, hM22, C22⟩ := stF ((chM qs (l.take i)) t0 a0 - x.f2)
            rw [← hw22]
            clear hM stF
            have hM := hM22
            clear hM22
            replace b14 := C22 _ _ _ _ b14 (by decide) (by decide)
            replace b15 := C22 _ _ _ _ b15 (by decide) (by decide)
            replace b16 := C22 _ _ _ _ b16 (by decide) (by decide)
            refine E.GJ.done (by kernel_rfl) ?_
            refine E.QG.code ?_
            refine E.CG.seq ?_
            refine E.CG.list ?_
            refine E.GL.run rfl rfl rfl (E.Runs.fieldAddr rfl rfl hu45 rfl (by assumption) rfl) ?_
            refine E.GL.run rfl rfl rfl (E.Runs.load rfl rfl hu3 (by first | assumption | exact E.blkc (by assumption) rfl)) ?_
            refine E.GL.cmp rfl rfl rfl (fun _ h => (E.Runs.eql rfl rfl rfl h)) (fun h96 => ?_) (fun h96 => ?_)
            · have hof : outF qs x = x.f2 := by unfold outF; rw [hqu, if_pos h96]
              rw [ch_out hx hqu ht0 ha0 h96] at hM
              refine E.GL.done ?_
              refine E.QG.code ?_
              refine E.CG.cond_t rfl ?_
              refine E.CG.list ?_
              refine E.GL.run rfl rfl rfl (E.Runs.move rfl rfl) ?_
              refine E.GL.run rfl rfl rfl (E.Runs.fieldAddr rfl rfl hu35 rfl (by assumption) rfl) ?_
              refine E.GL.run rfl rfl rfl (E.Runs.load rfl rfl hu3 (by first | assumption | exact E.blkc (by assumption) rfl)) ?_
              refine E.GL.run rfl rfl rfl (E.Runs.add rfl rfl rfl (IntWalk.i64_in _ (by omega))) ?_
              refine E.GL.run rfl rfl rfl (E.Runs.assign rfl rfl) ?_
              refine E.GL.done ?_
              refine E.QG.block_normal ?_
              refine E.QG.code ?_
              refine E.CG.list ?_
              refine E.GL.run rfl rfl rfl (E.Runs.add rfl rfl rfl (IntWalk.i64_in _ (by omega))) ?_
              refine E.GL.run rfl rfl rfl (E.Runs.move rfl rfl) ?_
              refine E.GL.done ?_
              exact E.QG.round (i + 1) (E.subc rfl (E.subc rfl (E.subc rfl (E.subc rfl (E.subc rfl (E.subc (by unfold outM; rw [hst, hof]; first | rfl | (rw [Int.add_zero]; rfl) | fail) (E.subc rfl (E.subc rfl (E.subc rfl E.subn))))))))) ⟨by omega, (by first | exact hM | (rw [ch_in hx hqu ht0 ha0 hb0 ht1] at hM; exact hM) | fail), all_more2 hmv hx ⟨hmo, by rw [hqu]; omega⟩⟩ (by omega)
            · have hof : outF qs x = 0 := by unfold outF; rw [hqu, if_neg h96]
              refine E.GL.done ?_
              refine E.QG.code ?_
              refine E.CG.cond_f rfl ?_
              obtain ⟨b0, hb0⟩ : ∃ u : Nat, (u : Int) = q.f1 := ⟨q.f1.toNat, by omega⟩
              obtain ⟨t1, ht1⟩ : ∃ u : Nat, (u : Int) = x.f0 + q.f3 := ⟨(x.f0 + q.f3).toNat, by omega⟩
              refine E.CG.heldJ 16 (fun v W => v.grownBy W (none)) (fun _ _ => True) (by kernel_rfl) (by kernel_rfl) (fun v => World.grownBy.refl _ _) fun v25 lD => ?_
              replace b14 := blk_below b14 lD
              replace b15 := blk_below b15 lD
              replace b16 := blk_below b16 lD
              replace hM := hM.below lD
              have lD25 := lD
              clear lD
              have hat : t1 ≤ T := by omega
              have har : b0 < ps.length := by omega
              obtain ⟨AE, cE1, gF, cE, eE, cF, fF, stF⟩ := hM.entry hat har
              have hcb1 : -40000000 ≤ setF (chM qs (l.take i)) t0 a0 ((chM qs (l.take i)) t0 a0 - x.f2) t1 b0 ∧ setF (chM qs (l.take i)) t0 a0 ((chM qs (l.take i)) t0 a0 - x.f2) t1 b0 ≤ 40000000 := by
                unfold setF
                have k1 := hcb t0 a0
                have k2 := hcb t1 b0
                split <;> omega
              have s_b14 := b14
              have s_b15 := b15
              have s_b16 := b16
              have s_hM := hM
              refine E.GJ.take1 (i := 0) rfl (by kernel_rfl) (by kernel_rfl) (by kernel_rfl) (by kernel_rfl) rfl (by kernel_rfl) (by kernel_rfl) (by intro c a d v w h; cases d <;> exact h) rfl rfl rfl (fun w' hS => (E.Runs.move rfl rfl)) ?_
              refine E.GJ.take1 (i := 1) rfl (by kernel_rfl) (by kernel_rfl) (by kernel_rfl) (by kernel_rfl) rfl (by kernel_rfl) (by kernel_rfl) (by intro c a d v w h; cases d <;> exact h) rfl rfl rfl (fun w' hS => (E.Runs.fieldAddr rfl rfl hu35 rfl (by assumption) rfl)) ?_
              refine E.GJ.take1 (i := 2) rfl (by kernel_rfl) (by kernel_rfl) (by kernel_rfl) (by kernel_rfl) rfl (by kernel_rfl) (by kernel_rfl) (by intro c a d v w h; cases d <;> exact h) rfl rfl rfl (fun w' hS => (E.Runs.load rfl rfl hu3 (by first | exact E.keeps hS (E.blkc (by assumption) rfl) (by first | exact E.nen | exact E.nes (by assumption) | exact E.nes (Ne.symm (by assumption)))))) ?_
              refine E.GJ.take1 (i := 3) rfl (by kernel_rfl) (by kernel_rfl) (by kernel_rfl) (by kernel_rfl) rfl (by kernel_rfl) (by kernel_rfl) (by intro c a d v w h; cases d <;> exact h) rfl rfl rfl (fun w' hS => (E.Runs.fieldAddr rfl rfl hu45 rfl (by assumption) rfl)) ?_
              refine E.GJ.take1 (i := 4) rfl (by kernel_rfl) (by kernel_rfl) (by kernel_rfl) (by kernel_rfl) rfl (by kernel_rfl) (by kernel_rfl) (by intro c a d v w h; cases d <;> exact h) rfl rfl rfl (fun w' hS => (E.Runs.load rfl rfl hu3 (by first | exact E.keeps hS (E.blkc (by assumption) rfl) (by first | exact E.nen | exact E.nes (by assumption) | exact E.nes (Ne.symm (by assumption)))))) ?_
              refine E.GJ.take1 (i := 5) rfl (by kernel_rfl) (by kernel_rfl) (by kernel_rfl) (by kernel_rfl) rfl (by kernel_rfl) (by kernel_rfl) (by intro c a d v w h; cases d <;> exact h) rfl rfl rfl (fun w' hS => (E.Runs.add rfl rfl rfl (IntWalk.i64_in _ (by omega)))) ?_
              refine E.GJ.take1 (i := 6) rfl (by kernel_rfl) (by kernel_rfl) (by kernel_rfl) (by kernel_rfl) rfl (by kernel_rfl) (by kernel_rfl) (by intro c a d v w h; cases d <;> exact h) rfl rfl rfl (fun w' hS => (E.Runs.indexAddrA (i := t1) rfl rfl (by rw [ht1]; rfl) hu68 z22 o22 (by omega) rfl (show _ = (⟨gO, t1 * 1, none⟩ : Addr) from by rw [Go.Addr.add_mid, Nat.zero_add]))) ?_
              refine E.GJ.take1 (i := 7) rfl (by kernel_rfl) (by kernel_rfl) (by kernel_rfl) (by kernel_rfl) rfl (by kernel_rfl) (by kernel_rfl) (by intro c a d v w h; cases d <;> exact h) rfl rfl rfl (fun w' hS => (E.Runs.load1 rfl rfl hu22 rfl (E.keeps hS cE E.nen))) ?_
              refine E.GJ.take1 (i := 8) rfl (by kernel_rfl) (by kernel_rfl) (by kernel_rfl) (by kernel_rfl) rfl (by kernel_rfl) (by kernel_rfl) (by intro c a d v w h; cases d <;> exact h) rfl rfl rfl (fun w' hS => (E.Runs.fieldAddr rfl rfl hu45 rfl (by assumption) rfl)) ?_
              refine E.GJ.take1 (i := 9) rfl (by kernel_rfl) (by kernel_rfl) (by kernel_rfl) (by kernel_rfl) rfl (by kernel_rfl) (by kernel_rfl) (by intro c a d v w h; cases d <;> exact h) rfl rfl rfl (fun w' hS => (E.Runs.load rfl rfl hu3 (by first | exact E.keeps hS (E.blkc (by assumption) rfl) (by first | exact E.nen | exact E.nes (by assumption) | exact E.nes (Ne.symm (by assumption)))))) ?_
              refine E.GJ.take1 (i := 10) rfl (by kernel_rfl) (by kernel_rfl) (by kernel_rfl) (by kernel_rfl) rfl (by kernel_rfl) (by kernel_rfl) (by intro c a d v w h; cases d <;> exact h) rfl rfl rfl (fun w' hS => (E.Runs.indexAddrA (i := b0) rfl rfl (by first | rfl | rw [hb0]; rfl) hu22 z3 o3 (by omega) eE (show _ = (⟨gF, b0 * 1, none⟩ : Addr) from by rw [Go.Addr.add_mid, Nat.zero_add]))) ?_
              refine E.GJ.take1 (i := 11) rfl (by kernel_rfl) (by kernel_rfl) (by kernel_rfl) (by kernel_rfl) rfl (by kernel_rfl) (by kernel_rfl) (by intro c a d v w h; cases d <;> exact h) rfl rfl rfl (fun w' hS => (E.Runs.load rfl rfl hu3 (E.keeps hS cF E.nen))) ?_
              refine E.GJ.take1 (i := 12) rfl (by kernel_rfl) (by kernel_rfl) (by kernel_rfl) (by kernel_rfl) rfl (by kernel_rfl) (by kernel_rfl) (by intro c a d v w h; cases d <;> exact h) rfl rfl rfl (fun w' hS => (E.Runs.fieldAddr rfl rfl hu35 rfl (by assumption) rfl)) ?_
              refine E.GJ.take1 (i := 13) rfl (by kernel_rfl) (by kernel_rfl) (by kernel_rfl) (by kernel_rfl) rfl (by kernel_rfl) (by kernel_rfl) (by intro c a d v w h; cases d <;> exact h) rfl rfl rfl (fun w' hS => (E.Runs.load rfl rfl hu3 (by first | exact E.keeps hS (E.blkc (by assumption) rfl) (by first | exact E.nen | exact E.nes (by assumption) | exact E.nes (Ne.symm (by assumption)))))) ?_
              refine E.GJ.take1 (i := 14) rfl (by kernel_rfl) (by kernel_rfl) (by kernel_rfl) (by kernel_rfl) rfl (by kernel_rfl) (by kernel_rfl) (by intro c a d v w h; cases d <;> exact h) rfl rfl rfl (fun w' hS => (E.Runs.add rfl rfl rfl (IntWalk.i64_in _ (by omega)))) ?_
              refine E.GJ.take1 (i := 15) rfl (by kernel_rfl) (by kernel_rfl) (by kernel_rfl) (by kernel_rfl) rfl (by kernel_rfl) (by kernel_rfl) (by intro c a d v w h; cases d <;> exact h) rfl rfl rfl (fun w' hS => (E.Runs.indexAddrA (i := b0) rfl rfl (by first | rfl | rw [hb0]; rfl) hu22 z3 o3 (by omega) eE (show _ = (⟨gF, b0 * 1, none⟩ : Addr) from by rw [Go.Addr.add_mid, Nat.zero_add]))) ?_
              refine E.GJ.one (i := 16) (by kernel_rfl) (E.OJ.sn rfl rfl rfl (E.ST.storeN rfl z3 o3 rfl rfl cF fF ⟨(E.SJ.behind (by kernel_rfl)).mpr trivial, ?_⟩))
              obtain ⟨w25, hw25, hM25, C25⟩ := stF (setF (chM qs (l.take i)) t0 a0 ((chM qs (l.take i)) t0 a0 - x.f2) t1 b0 + x.f2)
              rw [← hw25]
              clear hM stF
              have hM := hM25
              clear hM25
              replace b14 := C25 _ _ _ _ b14 (by decide) (by decide)
              replace b15 := C25 _ _ _ _ b15 (by decide) (by decide)
              replace b16 := C25 _ _ _ _ b16 (by decide) (by decide)
              refine E.GJ.done (by kernel_rfl) ?_
              refine E.QG.block_normal ?_
              refine E.QG.code ?_
              refine E.CG.list ?_
              refine E.GL.run rfl rfl rfl (E.Runs.add rfl rfl rfl (IntWalk.i64_in _ (by omega))) ?_
              refine E.GL.run rfl rfl rfl (E.Runs.move rfl rfl) ?_
              refine E.GL.done ?_
              exact E.QG.round (i + 1) (E.subc rfl (E.subc rfl (E.subc rfl (E.subc rfl (E.subc rfl (E.subc (by unfold outM; rw [hst, hof]; first | rfl | (rw [Int.add_zero]; rfl) | fail) (E.subc rfl (E.subc rfl (E.subc rfl E.subn))))))))) ⟨by omega, (by first | exact hM | (rw [ch_in hx hqu ht0 ha0 hb0 ht1] at hM; exact hM) | fail), all_more2 hmv hx ⟨hmo, by rw [hqu]; omega⟩⟩ (by omega)
        · refine E.GL.st rfl rfl rfl (E.ST.call rfl ent46 (E.evc rfl (E.evc rfl (E.evc rfl E.evn))) ((isMove_calls ps qs A B c d T x false hH (iff_of_false Bool.false_ne_true h54) _ (Kd.C_below hQ hM.bel) hT).mono ?_))
          rintro e w54 ⟨rfl, l54⟩
          refine ⟨_, rfl, ?_⟩
          replace b14 := blk_below b14 l54
          replace hM := hM.below l54
          refine E.GL.run rfl rfl rfl (E.Runs.not rfl rfl) ?_
          refine E.GL.done ?_
          refine E.QG.code ?_
          refine E.CG.cond_t rfl ?_
          refine E.CG.seq ?_
          refine E.CG.list ?_
          refine E.GL.run rfl rfl rfl (E.Runs.assign rfl rfl) ?_
          refine E.GL.run rfl rfl rfl (E.Runs.assign rfl rfl) ?_
          refine E.GL.done ?_
          refine E.QG.code ?_
          refine E.CG.ret ?_
          refine E.QG.pass_ret ?_
          refine E.QG.block_ret ?_
          refine E.QG.pass_ret ?_
          refine E.QG.pass_ret ?_
          refine E.QG.block_ret ?_
          refine E.QG.pass_ret ?_
          exact E.QG.result2 rfl rfl rfl ⟨_, _, rfl, ⟨fun k => absurd hE k, fun _ => ⟨fun k => by rw [Int.toNat_natCast] at k; exact absurd k (fun k => by obtain ⟨⟨q1, q2, q3, q4, q5⟩, q6⟩ := k.mv i x hx; have hub := (usedM_b (fun k hk x hx => (hmv k hk x hx).1) x.f1 x.f0 (n := i)).1; have hst := sumM_step (h := usedF x.f1 x.f0) hx; have huf : usedF x.f1 x.f0 x = x.f2 := if_pos ⟨rfl, rfl⟩; exact h54 ⟨q2, q1, q3, q5, by unfold usedM at hub q6; omega⟩), fun _ => ⟨rfl, rfl⟩⟩⟩, hM.bel⟩
      · refine E.GL.done ?_
        refine E.QG.code ?_
        refine E.CG.seq ?_
        refine E.CG.cond_f rfl ?_
        refine E.CG.exit ?_
        refine E.QG.pass_exit ?_
        refine E.QG.pass_exit ?_
        refine E.QG.block_here ?_
        refine E.QG.code ?_
        refine E.CG.seq ?_
        have hM0 := hM
        have hil : i = l.length := by omega
        subst hil
        rw [List.take_length] at hM hM0
        refine E.CG.list ?_
        refine E.GL.run rfl rfl rfl (E.Runs.fieldAddr rfl rfl hu25 rfl (by assumption) rfl) ?_
        refine E.GL.run rfl rfl rfl (E.Runs.load1 rfl rfl hu22 rfl (E.blkc hM.b3 rfl)) ?_
        refine E.GL.st rfl rfl rfl (E.ST.call rfl ent47 (E.evc rfl E.evn) ((clone47 ps A c _ (Kd.C_below hP hM.bel) hn1).mono ?_))
        rintro e w120 ⟨v120, rfl, R120, l120⟩
        refine ⟨_, rfl, ?_⟩
        replace hM := hM.below l120
        have L13 := l120
        obtain ⟨A17, c17, hv120⟩ := Kd.R_slice R120
        subst hv120
        clear hM
        have hM := hM0
        refine E.GL.run rfl rfl rfl (E.Runs.assign rfl rfl) ?_
        refine E.GL.done ?_
        refine E.QG.code ?_
        refine E.CG.seq ?_
        refine E.CG.seq ?_
        refine E.CG.list ?_
        refine E.GL.run rfl rfl rfl (E.Runs.move rfl rfl) ?_
        refine E.GL.run rfl rfl rfl (E.Runs.len rfl rfl hu68) ?_
        refine E.GL.run rfl rfl rfl (E.Runs.move rfl rfl) ?_
        refine E.GL.done ?_
        refine E.QG.code ?_
        refine E.CG.block ?_
        have hall : ∀ x ∈ l, MvOk qs T x := fun x hx => by obtain ⟨k, hk⟩ := List.mem_iff_getElem?.mp hx; exact (hmv k (by have := (List.getElem?_eq_some_iff.1 hk).1; omega) x hk).1
        have hcb : ∀ m r, _ := fun m r => by have := chM_b (qs := qs) (T := T) (l := l) (n := l.length) (fun k hk x hx => (hmv k hk x hx).1) (by omega) m r; rw [List.take_length] at this; exact this
        have s29_L13 := L13
        refine E.CG.loop (fun (m : Nat) => [(9, .slice (some ⟨gO, 0, none⟩) (T + 1) (T + 1)), (12, .int .i64 (outM qs (l.take l.length))), (17, .slice A17 ps.length c17), (121, .slice (some ⟨gO, 0, none⟩) (T + 1) (T + 1)), (122, .int .i64 ((T + 1 : Nat) : Int)), (123, .int .i64 m)]) (fun m w' => m ≤ T + 1 ∧ Kd.R kI 3 w' w13.heap.size (fun _ => True) (.slice A17 ps.length c17) (thR ps (chM qs l) ps.length m 0) ∧ Below w13.heap.size w13 w' ∧ ∀ a, a < m → ∀ r, r < ps.length → 0 ≤ thA ps (chM qs l) a (r + 1) r) (fun m => T + 1 - m) 0 (E.subc rfl (E.subc rfl (E.subc rfl (E.subc rfl (E.subc rfl (E.subc rfl E.subn)))))) ⟨Nat.zero_le _, by rw [thR_first]; exact R120, L13, fun a ha => by omega⟩ ?_
        rintro m w29 ⟨hm, RT, L13, hth⟩
        refine E.CG.seq ?_
        refine E.CG.list ?_
        refine E.GL.cmp rfl rfl rfl (fun _ h => (E.Runs.lss rfl rfl rfl h)) (fun h124 => ?_) (fun h124 => ?_)
        · have hmT : m ≤ T := by omega
          obtain ⟨AG, cG1, hvm, RG⟩ := hM.rows.at_ (mat_row (chM qs l) hmT)
          rw [matR_len] at hvm
          have RG2 := RG
          rw [matR_len] at RG2
          refine E.GL.done ?_
          refine E.QG.code ?_
          refine E.CG.seq ?_
          refine E.CG.cond_t rfl ?_
          refine E.CG.skip ?_
          refine E.QG.code ?_
          refine E.CG.seq ?_
          refine E.CG.block ?_
          refine E.CG.seq ?_
          refine E.CG.list ?_
          refine E.GL.run rfl rfl rfl (E.Runs.indexAddrA (i := m) rfl rfl rfl hu68 z22 o22 (by omega) rfl (show _ = (⟨gO, m * 1, none⟩ : Addr) from by rw [Go.Addr.add_mid, Nat.zero_add])) ?_
          refine E.GL.run rfl rfl rfl (E.Runs.load1 rfl rfl hu22 rfl (pw_cell_below L13 (hM.rows.cell hvm))) ?_
          refine E.GL.run rfl rfl rfl (E.Runs.assign rfl rfl) ?_
          refine E.GL.done ?_
          refine E.QG.code ?_
          refine E.CG.seq ?_
          refine E.CG.list ?_
          refine E.GL.run rfl rfl rfl (E.Runs.move rfl rfl) ?_
          refine E.GL.run rfl rfl rfl (E.Runs.len rfl rfl hu22) ?_
          refine E.GL.run rfl rfl rfl (E.Runs.move rfl rfl) ?_
          refine E.GL.done ?_
          refine E.QG.code ?_
          refine E.CG.block ?_
          have s32_L13 := L13
          refine E.CG.loop (fun (r : Nat) => [(9, .slice (some ⟨gO, 0, none⟩) (T + 1) (T + 1)), (12, .int .i64 (outM qs (l.take l.length))), (17, .slice A17 ps.length c17), (121, .slice (some ⟨gO, 0, none⟩) (T + 1) (T + 1)), (122, .int .i64 ((T + 1 : Nat) : Int)), (123, .int .i64 m), (127, .slice AG ps.length cG1), (128, .int .i64 ps.length), (129, .int .i64 r)]) (fun r w' => r ≤ ps.length ∧ Kd.R kI 3 w' w13.heap.size (fun _ => True) (.slice A17 ps.length c17) (thR ps (chM qs l) ps.length m r) ∧ Below w13.heap.size w13 w' ∧ ∀ a, a < r → 0 ≤ thA ps (chM qs l) m (a + 1) a) (fun r => ps.length - r) 0 (E.subc rfl (E.subc rfl (E.subc rfl (E.subc rfl (E.subc rfl (E.subc rfl (E.subc rfl (E.subc rfl (E.subc rfl E.subn))))))))) ⟨Nat.zero_le _, RT, L13, fun a ha => by omega⟩ ?_
          rintro r w32 ⟨hr, RT, L13, hth2⟩
          refine E.CG.seq ?_
          refine E.CG.list ?_
          refine E.GL.cmp rfl rfl rfl (fun _ h => (E.Runs.lss rfl rfl rfl h)) (fun h130 => ?_) (fun h130 => ?_)
          · have hrl : r < ps.length := by omega
            obtain ⟨gG, eG, _, cG, _⟩ := rowI_at RG2 (matR_get (chM qs l) hrl)
            have hk1 := hcb m r
            have hk2 := sumN_b2 (fun a => hcb a r) m
            have hp1 := hH.p _ (getD_mem (z := 0) hrl)
            have hk3 : thA ps (chM qs l) m r r = ps.getD r 0 + sumN (fun a => (chM qs l) a r) m := by unfold thA; rw [if_neg (by omega), Int.add_zero]
            have hk4 := thA_after ps (chM qs l) m r
            rw [sumN] at hk4
            refine E.GL.done ?_
            refine E.QG.code ?_
            refine E.CG.seq ?_
            refine E.CG.cond_t rfl ?_
            refine E.CG.skip ?_
            refine E.QG.code ?_
            refine E.CG.seq ?_
            refine E.CG.block ?_
            refine E.CG.seq ?_
            refine E.CG.list ?_
            refine E.GL.run rfl rfl rfl (E.Runs.move rfl rfl) ?_
            refine E.GL.run rfl rfl rfl (E.Runs.indexAddrA (i := r) rfl rfl rfl hu22 z3 o3 (by omega) eG (show _ = (⟨gG, r * 1, none⟩ : Addr) from by rw [Go.Addr.add_mid, Nat.zero_add])) ?_
            refine E.GL.run rfl rfl rfl (E.Runs.load rfl rfl hu3 (pw_cell_below L13 cG)) ?_
            refine E.GL.run rfl rfl rfl (E.Runs.assign rfl rfl) ?_
            refine E.GL.run rfl rfl rfl (E.Runs.assign rfl rfl) ?_
            refine E.GL.done ?_
            refine E.QG.code ?_
            refine E.CG.seq ?_
            obtain ⟨gT, eT, hgT, cT, fT, ⟨_, bT⟩, stT⟩ := rowI_at RT (thR_get hrl)
            refine E.CG.list ?_
            refine E.GL.run rfl rfl rfl (E.Runs.move rfl rfl) ?_
            refine E.GL.run rfl rfl rfl (E.Runs.move rfl rfl) ?_
            refine E.GL.run rfl rfl rfl (E.Runs.indexAddrA (i := r) rfl rfl rfl hu22 z3 o3 (by omega) eT (show _ = (⟨gT, r * 1, none⟩ : Addr) from by rw [Go.Addr.add_mid, Nat.zero_add])) ?_
            refine E.GL.run rfl rfl rfl (E.Runs.load rfl rfl hu3 cT) ?_
            refine E.GL.run rfl rfl rfl (E.Runs.move rfl rfl) ?_
            refine E.GL.run rfl rfl rfl (E.Runs.add rfl rfl rfl (IntWalk.i64_in _ (by omega))) ?_
            refine E.GL.run rfl rfl rfl (E.Runs.indexAddrA (i := r) rfl rfl rfl hu22 z3 o3 (by omega) eT (show _ = (⟨gT, r * 1, none⟩ : Addr) from by rw [Go.Addr.add_mid, Nat.zero_add])) ?_
            refine E.GL.sn rfl rfl (E.ST.storeN rfl z3 o3 rfl rfl cT fT ?_)
            obtain ⟨w34, hw34, RN, g34⟩ := stT (thA ps (chM qs l) m r r + (chM qs l) m r)
            rw [← hw34]
            rw [thR_set _ _ _ (show r < ps.length by omega)] at RN
            replace L13 := E.below_own L13 hgT g34
            clear RT stT g34
            have RT := RN
            clear RN
            refine E.GL.done ?_
            refine E.QG.code ?_
            refine E.CG.seq ?_
            obtain ⟨gT2, eT2, _, cT2, _⟩ := rowI_at RT (thR_get hrl)
            refine E.CG.list ?_
            refine E.GL.run rfl rfl rfl (E.Runs.move rfl rfl) ?_
            refine E.GL.run rfl rfl rfl (E.Runs.move rfl rfl) ?_
            refine E.GL.run rfl rfl rfl (E.Runs.indexAddrA (i := r) rfl rfl rfl hu22 z3 o3 (by omega) eT2 (show _ = (⟨gT2, r * 1, none⟩ : Addr) from by rw [Go.Addr.add_mid, Nat.zero_add])) ?_
            refine E.GL.run rfl rfl rfl (E.Runs.load rfl rfl hu3 cT2) ?_
            refine E.GL.cmp rfl rfl rfl (fun _ h => (E.Runs.lss rfl rfl rfl h)) (fun h145 => ?_) (fun h145 => ?_)
            · refine E.GL.done ?_
              refine E.QG.code ?_
              refine E.CG.cond_t rfl ?_
              refine E.CG.seq ?_
              refine E.CG.list ?_
              refine E.GL.run rfl rfl rfl (E.Runs.assign rfl rfl) ?_
              refine E.GL.run rfl rfl rfl (E.Runs.assign rfl rfl) ?_
              refine E.GL.done ?_
              refine E.QG.code ?_
              refine E.CG.ret ?_
              refine E.QG.block_ret ?_
              refine E.QG.pass_ret ?_
              refine E.QG.pass_ret ?_
              refine E.QG.block_ret ?_
              refine E.QG.block_ret ?_
              refine E.QG.pass_ret ?_
              refine E.QG.pass_ret ?_
              refine E.QG.block_ret ?_
              refine E.QG.pass_ret ?_
              exact E.QG.result2 rfl rfl rfl ⟨_, _, rfl, ⟨fun k => absurd hE k, fun _ => ⟨fun k => by rw [Int.toNat_natCast] at k; exact absurd k (fun k => by have := k.th r m hrl hmT; rw [← ch_th hH hall r m, ← thA_after] at this; omega), fun _ => ⟨rfl, rfl⟩⟩⟩, below_step' hM.bel hM.size L13⟩
            · refine E.GL.done ?_
              refine E.QG.code ?_
              refine E.CG.cond_f rfl ?_
              refine E.CG.skip ?_
              refine E.QG.block_normal ?_
              refine E.QG.code ?_
              refine E.CG.list ?_
              refine E.GL.run rfl rfl rfl (E.Runs.add rfl rfl rfl (IntWalk.i64_in _ (by omega))) ?_
              refine E.GL.run rfl rfl rfl (E.Runs.move rfl rfl) ?_
              refine E.GL.done ?_
              exact E.QG.round (r + 1) (E.subc rfl (E.subc rfl (E.subc rfl (E.subc rfl (E.subc rfl (E.subc rfl (E.subc rfl (E.subc rfl (E.subc rfl E.subn))))))))) ⟨by omega, RT, L13, lt_succ_all hth2 (by omega)⟩ (by omega)
          · refine E.GL.done ?_
            refine E.QG.code ?_
            refine E.CG.seq ?_
            refine E.CG.cond_f rfl ?_
            refine E.CG.exit ?_
            refine E.QG.pass_exit ?_
            refine E.QG.pass_exit ?_
            refine E.QG.block_here ?_
            refine E.QG.block_normal ?_
            refine E.QG.code ?_
            refine E.CG.list ?_
            refine E.GL.run rfl rfl rfl (E.Runs.add rfl rfl rfl (IntWalk.i64_in _ (by omega))) ?_
            refine E.GL.run rfl rfl rfl (E.Runs.move rfl rfl) ?_
            refine E.GL.done ?_
            exact E.QG.round (m + 1) (E.subc rfl (E.subc rfl (E.subc rfl (E.subc rfl (E.subc rfl (E.subc rfl E.subn)))))) ⟨by omega, by rw [← thR_next _ _ m (show ps.length ≤ r by omega)]; exact RT, L13, lt_succ_all hth (fun a ha => hth2 a (by omega))⟩ (by omega)
        · refine E.GL.done ?_
          refine E.QG.code ?_
          refine E.CG.seq ?_
          refine E.CG.cond_f rfl ?_
          refine E.CG.exit ?_
          refine E.QG.pass_exit ?_
          refine E.QG.pass_exit ?_
          refine E.QG.block_here ?_
          refine E.QG.code ?_
          refine E.CG.seq ?_
          refine E.CG.list ?_
          refine E.GL.run rfl rfl rfl (E.Runs.move rfl rfl) ?_
          refine E.GL.run rfl rfl rfl (E.Runs.assign rfl rfl) ?_
          refine E.GL.run rfl rfl rfl (E.Runs.assign rfl rfl) ?_
          refine E.GL.done ?_
          refine E.QG.code ?_
          refine E.CG.ret ?_
          exact E.QG.result2 rfl rfl rfl ⟨_, _, rfl, ⟨fun k => absurd hE k, fun _ => ⟨fun _ => ⟨by rw [List.take_length], rfl⟩, fun k => absurd ⟨fun a x hx => hmv a (by have := (List.getElem?_eq_some_iff.1 hx).1; omega) x hx, fun a m2 ha hm2 => by rw [Int.toNat_natCast] at hm2; rw [← ch_th hH hall a m2, ← thA_after]; exact hth m2 (by omega) a ha⟩ k⟩⟩, below_step' hM.bel hM.size L13⟩

end Go.Proofs.Ytmnjlnkfihklgaa.T
namespace Go.Proofs.Ytmnjlnkfihklgaa.T
open Go.RowKit Go.Proofs.YtmnjlnkfihklgaaW.PrintWords Go.Proofs.YtmnjlnkfihklgaaW.PrintMore
open Go.Proofs.Ytmnjlnkfihklgaa.P
set_option linter.unusedVariables false
set_option linter.unusedSimpArgs false

set_option maxRecDepth 100000 in
theorem build95 (a b c : Int) (W : World) : (Instr.build 95 #[(0, .int .i64 a), (1, .int .i64 b), (2, .int .i64 c)]).run Try.prog W = .ok (.agg #[.int .i64 a, .int .i64 b, .int .i64 c]) W := by
  have hu3 := Try.underlying3
  have hu95 := Try.underlying95
  go_simp
set_option maxRecDepth 100000 in
theorem lit89 (a b c x y z : Int) (W : World) : (Instr.buildSlice 89 2 #[(0, .agg #[.int .i64 a, .int .i64 b, .int .i64 c]), (1, .agg #[.int .i64 x, .int .i64 y, .int .i64 z])]).run Try.prog W = .ok (.slice (some ⟨W.heap.size, 0, none⟩) 2 2) (W.alloc (.cells #[.int .i64 a, .int .i64 b, .int .i64 c, .int .i64 x, .int .i64 y, .int .i64 z] 95)) := by
  have hu89 := Try.underlying89
  have hu95 := Try.underlying95
  go_simp
theorem made95 {W : World} {base : Nat} : ∀ (x : S95) cs, k95.K W x cs → k95.M W base (fun _ => False) x cs := fun x cs h => by
  obtain rfl := k95_open h
  exact k95_mkM _ _ _ _
theorem reps95 (W : World) (base : Nat) (x y : S95) : Reps (k95.M W base (fun _ => False)) k95.sz [x, y] [.int .i64 x.f0, .int .i64 x.f1, .int .i64 x.f2, .int .i64 y.f0, .int .i64 y.f1, .int .i64 y.f2] :=
  Reps.c3 (k95_mkM _ _ _ x) (Reps.c3 (k95_mkM _ _ _ y) (Reps.none _ _))
set_option maxRecDepth 100000 in
set_option maxHeartbeats 8000000 in

theorem both_calls (base : Nat) (v : Value) (xs : List S95) (a b lf : Int) (w0 w : World) (HR : Kd.R k95 95 w base (fun _ => True) v xs) (HB : Below base w0 w) (hbase : base ≤ w.heap.size) (hl : xs.length ≤ 1000000) :
    Calls Try.prog 65 #[v, .int .i64 a, .int .i64 b, .int .i64 lf] w fun e w' => ∃ v', e = .returned v' ∧ Kd.R k95 95 w' base (fun _ => True) v' (xs ++ [⟨a, b, lf⟩, ⟨b, a, 0⟩]) ∧ Below base w0 w' ∧ w.grownBy w' v.ownBlock := by
  have hu3 := Try.underlying3
  have hu89 := Try.underlying89
  have hu95 := Try.underlying95
  obtain ⟨z3, o3⟩ := info_some info3s (by decide)
  obtain ⟨z89, o89⟩ := info_some info89s (by decide)
  obtain ⟨z95, o95⟩ := info_some info95s (by decide)
  refine E.enter (N := 19) Try.func65 rfl Try.ntmps65 (args := [v, .int .i64 a, .int .i64 b, .int .i64 lf]) (by simp) ?_
  have L := Below.refl w.heap.size w
  refine E.CG.seq ?_
  refine E.CG.list ?_
  refine E.GL.run rfl rfl rfl (E.Runs.assign rfl rfl) ?_
  refine E.GL.done ?_
  refine E.QG.code ?_
  refine E.CG.seq ?_
  refine E.CG.list ?_
  refine E.GL.run rfl rfl rfl (E.Runs.move rfl rfl) ?_
  refine E.GL.run rfl rfl rfl (E.Runs.move rfl rfl) ?_
  refine E.GL.run rfl rfl rfl (E.Runs.move rfl rfl) ?_
  refine E.GL.run rfl rfl rfl (E.Runs.move rfl rfl) ?_
  refine E.GL.run rfl rfl rfl (E.Runs.build rfl (E.epc rfl (E.epc rfl (E.epc rfl E.epn))) (build95 _ _ _)) ?_
  refine E.GL.run rfl rfl rfl (E.Runs.move rfl rfl) ?_
  refine E.GL.run rfl rfl rfl (E.Runs.move rfl rfl) ?_
  refine E.GL.run rfl rfl rfl (E.Runs.build rfl (E.epc rfl (E.epc rfl (E.epc rfl E.epn))) (build95 _ _ _)) ?_
  refine E.GL.st rfl rfl rfl (E.ST.litAt k95 base (w0 := w0) (ys := [⟨a, b, lf⟩, ⟨b, a, 0⟩]) (inner := [.int .i64 a, .int .i64 b, .int .i64 lf, .int .i64 b, .int .i64 a, .int .i64 0]) rfl rfl (E.epc rfl (E.epc rfl E.epn)) (lit89 a b lf b a 0) (reps95 _ _ _ _) HB hbase (by simp) fun u17 w17 r17 k17 l17 n17 => ?_)
  obtain ⟨A17, c17, hv17⟩ := Kd.R_slice r17
  subst hv17
  have hs17 : base ≤ w17.heap.size := Nat.le_trans hbase l17.size
  replace HR := Kd.R_below HR l17
  refine E.GL.st rfl rfl rfl (E.ST.appendAt k95 base (w0 := w0) (s := .tmp 9) (x := .tmp 17) rfl hu89 info95 rfl (by decide) (by decide) rfl rfl HR (Kd.R_reads' r17).2.2 made95 k17 hs17 (by simp only [List.length_cons, List.length_nil]; omega) fun u18 w18 r18 k18 g18 o18 => ?_)
  refine E.GL.run rfl rfl rfl (E.Runs.assign rfl rfl) ?_
  refine E.GL.done ?_
  refine E.QG.code ?_
  refine E.CG.ret ?_
  exact E.QG.result rfl rfl ⟨u18, rfl, r18, k18, (E.gbB l17).trans g18⟩

end Go.Proofs.Ytmnjlnkfihklgaa.T
namespace Go.Proofs.Ytmnjlnkfihklgaa.T
open Go.RowKit Go.Proofs.YtmnjlnkfihklgaaW.PrintWords Go.Proofs.YtmnjlnkfihklgaaW.PrintMore
open Go.Proofs.Ytmnjlnkfihklgaa.P
set_option linter.unusedVariables false
set_option linter.unusedSimpArgs false

/-- The reference's node of a room in a minute; of one of ours. -/
def rN (R r m : Nat) : Nat := 1 + m * R + r
def lastN (R T : Nat) : Nat := 1 + R * (T + 1)
def xN (R T v : Nat) : Nat := if v = 0 then 0 else if v = 1 then lastN R T else rN R ((v - 2) / (T + 1)) ((v - 2) % (T + 1))
theorem xN_zero (R T : Nat) : xN R T 0 = 0 := rfl
theorem xN_one (R T : Nat) : xN R T 1 = lastN R T := rfl
theorem xN_node {R T r m : Nat} (hm : m ≤ T) : xN R T (nodeN T r m) = rN R r m := by
  have h2 := nodeN_two T r m
  unfold xN
  rw [if_neg (by omega), if_neg (by omega), (node_parts hm).1, (node_parts hm).2]
/-- The reference's edges, and its ways. -/
def xE (ps : List Int) (T : Nat) (e : Ed) : Ed := ⟨xN ps.length T e.fr, xN ps.length T e.td, if e.fr ≠ 0 ∧ e.up = -1 then allP ps else e.cap, e.up, e.um⟩
def edX (ps : List Int) (qs : List S45) (T : Nat) : List Ed := (edH ps qs T).map (xE ps T)
def way2 (e : Ed) : List S95 := [⟨e.fr, e.td, e.cap⟩, ⟨e.td, e.fr, 0⟩]
def way0 (E : List Ed) : List S95 := E.flatMap way2
theorem way0_snoc (E : List Ed) (e : Ed) : way0 (E ++ [e]) = way0 E ++ way2 e := by simp [way0]
theorem way0_len (E : List Ed) : (way0 E).length = 2 * E.length := by
  unfold way0
  induction E with
  | nil => rfl
  | cons e E ih => rw [List.flatMap_cons, List.length_append, ih]; simp [way2]; omega
theorem xE_src {ps : List Int} {T r : Nat} (p : Int) : way2 (xE ps T ⟨0, nodeN T r 0, p, -1, 0⟩) = [⟨0, 1 + r, p⟩, ⟨1 + r, 0, 0⟩] := by
  unfold way2 xE
  simp only [xN_zero, xN_node (Nat.zero_le T)]
  unfold rN
  simp
theorem xE_hold {ps : List Int} {T r m : Nat} (h : m < T) : way2 (xE ps T ⟨nodeN T r m, nodeN T r (m + 1), 1073741824, -1, 0⟩) = [⟨1 + (m : Int) * ps.length + r, 1 + ((m : Int) + 1) * ps.length + r, allP ps⟩, ⟨1 + ((m : Int) + 1) * ps.length + r, 1 + (m : Int) * ps.length + r, 0⟩] := by
  have h2 := nodeN_two T r m
  unfold way2 xE
  simp only [xN_node (show m ≤ T by omega), xN_node (show m + 1 ≤ T by omega)]
  rw [if_pos ⟨by omega, trivial⟩]
  unfold rN
  push_cast
  rfl
def toX (R T : Nat) (q : S45) (m : Nat) : Int := if q.f1 = -1 then (lastN R T : Nat) else 1 + ((m : Int) + q.f3) * R + q.f1
theorem xE_pass {ps : List Int} {T i m : Nat} {q : S45} (hq : QOk ps.length q) (hm : m + q.f3.toNat < T + 1) : way2 (xE ps T ⟨nodeN T q.f0.toNat m, toN T q m, q.f2, (i : Int), (m : Int)⟩) = [⟨1 + (m : Int) * ps.length + q.f0, toX ps.length T q m, q.f2⟩, ⟨toX ps.length T q m, 1 + (m : Int) * ps.length + q.f0, 0⟩] := by
  obtain ⟨h1, h2, h3, h4, h5, h6, h7, h8, h9⟩ := hq
  have e1 : ((xN ps.length T (nodeN T q.f0.toNat m) : Nat) : Int) = 1 + (m : Int) * ps.length + q.f0 := by
    rw [xN_node (by omega)]
    unfold rN
    push_cast
    omega
  have e2 : ((xN ps.length T (toN T q m) : Nat) : Int) = toX ps.length T q m := by
    unfold toN toX
    by_cases z : q.f1 = -1
    · rw [if_pos z, if_pos z, xN_one]
    · rw [if_neg z, if_neg z, xN_node (by omega)]
      unfold rN
      push_cast
      rw [Int.toNat_of_nonneg (show 0 ≤ q.f3 by omega), Int.toNat_of_nonneg (show 0 ≤ q.f1 by omega)]
  unfold way2 xE
  simp only [e1, e2]
  rw [if_neg (fun z => by have := z.2; omega)]
theorem mul_small {a b x y : Int} (h0 : 0 ≤ a) (h1 : a ≤ x) (h2 : 0 ≤ b) (h3 : b ≤ y) : 0 ≤ a * b ∧ a * b ≤ x * y := ⟨Int.mul_nonneg h0 h2, Int.mul_le_mul h1 h3 h2 (by omega)⟩
theorem wl_src {ps : List Int} {qs : List S45} (hok : HOk ps qs) {T s m : Nat} (hT : T ≤ 60) (hs : s ≤ ps.length) (hm : m ≤ T) (x : Int) : (way0 ((edRs T ps s ++ edR T s x m).map (xE ps T))).length ≤ 3000 := by
  have := hok.r6
  rw [way0_len, List.length_map, List.length_append, edRs_len, edR_len]
  have := Nat.mul_le_mul (show s ≤ 6 by omega) (show T + 1 ≤ 61 by omega)
  omega
theorem wl_rs {ps : List Int} {qs : List S45} (hok : HOk ps qs) {T s : Nat} (hT : T ≤ 60) (hs : s ≤ ps.length) : (way0 ((edRs T ps s).map (xE ps T))).length ≤ 3000 := by
  have := hok.r6
  rw [way0_len, List.length_map, edRs_len]
  have := Nat.mul_le_mul (show s ≤ 6 by omega) (show T + 1 ≤ 61 by omega)
  omega
theorem wl_qs {ps : List Int} {qs : List S45} (hok : HOk ps qs) {T i m : Nat} (hT : T ≤ 60) (hi : i ≤ qs.length) (hm : m ≤ T + 1) (q : S45) : (way0 ((edRs T ps ps.length ++ edQs T qs i ++ edQ T i q m).map (xE ps T))).length ≤ 3000 := by
  have := hok.r6
  have := hok.q12
  have h1 := edQs_len T qs i
  rw [way0_len, List.length_map, List.length_append, List.length_append, edRs_len, edQ_len]
  have := Nat.mul_le_mul (show ps.length ≤ 6 by omega) (show T + 1 ≤ 61 by omega)
  have := Nat.mul_le_mul (show i ≤ 12 by omega) (show T + 1 ≤ 61 by omega)
  omega
set_option maxRecDepth 100000 in
set_option maxHeartbeats 8000000 in

theorem ways_calls (ps : List Int) (qs : List S45) (A B : Option Addr) (c d T : Nat) (w : World) (hok : HOk ps qs) (hT : T ≤ 60) (hP : Kd.C kI w A ps.length ps) (hQ : Kd.C k45 w B qs.length qs) :
    Calls Try.prog 62 #[hv ps qs A B c d, .int .i64 (T : Int)] w fun e w' => ∃ v, e = .returned (.tuple #[v, .int .i64 ((lastN ps.length T : Nat) : Int)]) ∧ Kd.R k95 95 w' w.heap.size (fun _ => True) v (way0 (edX ps qs T)) ∧ Below w.heap.size w w' := by
  have hu3 := Try.underlying3
  have hu22 := Try.underlying22
  have hu23 := Try.underlying23
  have hu25 := Try.underlying25
  have hu45 := Try.underlying45
  obtain ⟨z3, o3⟩ := info_some info3s (by decide)
  obtain ⟨z22, o22⟩ := info_some info22s (by decide)
  obtain ⟨z23, o23⟩ := info_some info23s (by decide)
  obtain ⟨z25, o25⟩ := info_some info25s (by decide)
  obtain ⟨z45, o45⟩ := info_some info45s (by decide)
  have hr6 := hok.r6
  have hq12 := hok.q12
  obtain ⟨hmT0, hmT1⟩ := mul_small (show (0 : Int) ≤ ps.length by omega) (show (ps.length : Int) ≤ 6 by omega) (show (0 : Int) ≤ (T : Int) + 1 by omega) (show (T : Int) + 1 ≤ 61 by omega)
  refine E.enter (N := 109) Try.func62 rfl Try.ntmps62 (args := [hv ps qs A B c d, .int .i64 (T : Int)]) (by simp) ?_
  have L := Below.refl w.heap.size w
  refine E.CG.seq ?_
  refine E.CG.list ?_
  refine E.GL.st rfl rfl rfl (E.ST.box rfl rfl fun g2 w2 e2 b2 l2 => ?_)
  have h2_L : w.heap.size ≤ g2 := by rw [e2]; exact L.size
  replace L := below_step L l2
  refine E.GL.run rfl rfl rfl (E.Runs.assign rfl rfl) ?_
  refine E.GL.run rfl rfl rfl (E.Runs.assign rfl rfl) ?_
  refine E.GL.done ?_
  refine E.QG.code ?_
  refine E.CG.seq ?_
  refine E.CG.quietF (by kernel_rfl) rfl (by kernel_rfl) (by kernel_rfl) ?_
  refine E.GQ.run rfl rfl rfl (E.Runs.fieldAddr rfl rfl hu25 rfl (by assumption) rfl) ?_
  refine E.GQ.run rfl rfl rfl (E.Runs.load1 rfl rfl hu22 rfl (by first | assumption | exact E.blkc (by assumption) rfl | exact pw_cell_below L (by assumption))) ?_
  refine E.GQ.run rfl rfl rfl (E.Runs.len rfl rfl hu22) ?_
  refine E.GQ.run rfl rfl rfl (E.Runs.fieldAddr rfl rfl hu25 rfl (by assumption) rfl) ?_
  refine E.GQ.run rfl rfl rfl (E.Runs.load1 rfl rfl hu22 rfl (by first | assumption | exact E.blkc (by assumption) rfl | exact pw_cell_below L (by assumption))) ?_
  refine E.GQ.run rfl rfl rfl (E.Runs.len rfl rfl hu22) ?_
  refine E.GQ.run rfl rfl rfl (E.Runs.move rfl rfl) ?_
  refine E.GQ.run rfl rfl rfl (E.Runs.add rfl rfl rfl (IntWalk.i64_in _ (by omega))) ?_
  refine E.GQ.run rfl rfl rfl (E.Runs.mul rfl rfl rfl (IntWalk.i64_in _ (by omega))) ?_
  refine E.GQ.run rfl rfl rfl (E.Runs.add rfl rfl rfl (IntWalk.i64_in _ (by omega))) ?_
  refine E.GQ.run rfl rfl rfl (E.Runs.assign rfl rfl) ?_
  refine E.GQ.run rfl rfl rfl (E.Runs.assign rfl rfl) ?_
  refine E.GQ.doneB fun v1 lD => ?_
  replace b2 := blk_below b2 lD
  replace L := below_step L lD
  have lD1 := lD
  clear lD
  refine E.QG.code ?_
  refine E.CG.seq ?_
  refine E.CG.list ?_
  refine E.GL.run rfl rfl rfl (E.Runs.assign rfl rfl) ?_
  refine E.GL.done ?_
  refine E.QG.code ?_
  refine E.CG.seq ?_
  refine E.CG.seq ?_
  refine E.CG.list ?_
  refine E.GL.run rfl rfl rfl (E.Runs.assign rfl rfl) ?_
  refine E.GL.done ?_
  refine E.QG.code ?_
  refine E.CG.block ?_
  have s4_b2 := b2
  have s4_L := L
  refine E.CG.loop2 (fun (s : Nat) (v8 : Value) => [(1, .int .i64 (T : Int)), (2, .pointer (some ⟨g2, 0, none⟩)), (6, .int .i64 ps.length), (7, .int .i64 ((lastN ps.length T : Nat) : Int)), (8, v8), (9, .int .i64 s)]) (fun s v8 w' => s ≤ ps.length ∧ Kd.R k95 95 w' w.heap.size (fun _ => True) v8 (way0 ((edRs T ps s).map (xE ps T))) ∧ w'.heap[g2]? = some (.cells #[.slice A ps.length c, .slice B qs.length d] 25 (0, 0)) ∧ Below w.heap.size w w') (fun s v8 => ps.length - s) 0 (.slice none 0 0) (E.subc rfl (E.subc rfl (E.subc rfl (E.subc (by rw [show ((lastN ps.length T : Nat) : Int) = 1 + (ps.length : Int) * ((T : Int) + 1) by unfold lastN; push_cast; rfl]; rfl) (E.subc rfl (E.subc rfl E.subn)))))) ⟨Nat.zero_le _, Kd.R_nil _ _ _ _ _, b2, L⟩ ?_
  rintro s v8 w4 ⟨hs1, R8, b2, L⟩
  refine E.CG.seq ?_
  refine E.CG.seq ?_
  refine E.CG.list ?_
  refine E.GL.run rfl rfl rfl (E.Runs.move rfl rfl) ?_
  refine E.GL.run rfl rfl rfl (E.Runs.move rfl rfl) ?_
  refine E.GL.cmp rfl rfl rfl (fun _ h => (E.Runs.lss rfl rfl rfl h)) (fun h27 => ?_) (fun h27 => ?_)
  · have hs : s < ps.length := by omega
    obtain ⟨aP, eP, cP⟩ := int_at hP (getD_some hs 0)
    refine E.GL.done ?_
    refine E.QG.code ?_
    refine E.CG.cond_t rfl ?_
    refine E.CG.skip ?_
    refine E.QG.code ?_
    refine E.CG.seq ?_
    refine E.CG.block ?_
    refine E.CG.seq ?_
    refine E.CG.list ?_
    refine E.GL.run rfl rfl rfl (E.Runs.move rfl rfl) ?_
    refine E.GL.run rfl rfl rfl (E.Runs.move rfl rfl) ?_
    refine E.GL.run rfl rfl rfl (E.Runs.add rfl rfl rfl (IntWalk.i64_in _ (by omega))) ?_
    refine E.GL.run rfl rfl rfl (E.Runs.fieldAddr rfl rfl hu25 rfl (by assumption) rfl) ?_
    refine E.GL.run rfl rfl rfl (E.Runs.load1 rfl rfl hu22 rfl (by first | assumption | exact E.blkc (by assumption) rfl | exact pw_cell_below L (by assumption))) ?_
    refine E.GL.run rfl rfl rfl (E.Runs.move rfl rfl) ?_
    refine E.GL.run rfl rfl rfl (E.Runs.indexAddrA rfl rfl rfl hu22 z3 o3 (show (s : Int) < ps.length by omega) eP rfl) ?_
    refine E.GL.run rfl rfl rfl (E.Runs.load rfl rfl hu3 (pw_cell_below L cP)) ?_
    refine E.GL.st rfl rfl rfl (E.ST.call rfl ent65 (E.evc rfl (E.evc rfl (E.evc rfl (E.evc rfl E.evn)))) ((both_calls w.heap.size _ _ _ _ _ w _ R8 L L.size (by have := wl_rs hok hT (s := s) (by omega); omega)).mono ?_))
    rintro e w38 ⟨v38, rfl, R38, k38, g38⟩
    refine ⟨_, rfl, ?_⟩
    replace b2 := blk_grown b2 g38 (Kd.R_ne R8 b2 (by decide))
    replace L := k38
    clear k38
    clear R8
    have R8 := R38
    clear R38 g38
    refine E.GL.run rfl rfl rfl (E.Runs.assign rfl rfl) ?_
    refine E.GL.done ?_
    refine E.QG.code ?_
    refine E.CG.seq ?_
    refine E.CG.list ?_
    refine E.GL.run rfl rfl rfl (E.Runs.assign rfl rfl) ?_
    refine E.GL.done ?_
    refine E.QG.code ?_
    refine E.CG.block ?_
    have s8_b2 := b2
    have s8_L := L
    refine E.CG.loop2 (fun (m : Nat) (v8 : Value) => [(1, .int .i64 (T : Int)), (2, .pointer (some ⟨g2, 0, none⟩)), (6, .int .i64 ps.length), (7, .int .i64 ((lastN ps.length T : Nat) : Int)), (8, v8), (9, .int .i64 s), (10, .int .i64 m)]) (fun m v8 w' => m ≤ T ∧ Kd.R k95 95 w' w.heap.size (fun _ => True) v8 (way0 ((edRs T ps s ++ edR T s (ps.getD s 0) m).map (xE ps T))) ∧ w'.heap[g2]? = some (.cells #[.slice A ps.length c, .slice B qs.length d] 25 (0, 0)) ∧ Below w.heap.size w w') (fun m v8 => T - m) 0 _ (E.subc rfl (E.subc rfl (E.subc rfl (E.subc rfl (E.subc rfl (E.subc rfl (E.subc rfl E.subn))))))) ⟨Nat.zero_le _, by rw [List.map_append, show (edR T s (ps.getD s 0) 0).map (xE ps T) = [xE ps T ⟨0, nodeN T s 0, ps.getD s 0, -1, 0⟩] from rfl, way0_snoc, xE_src]; exact R8, b2, L⟩ ?_
    rintro m v8 w8 ⟨hm, R8, b2, L⟩
    refine E.CG.seq ?_
    refine E.CG.seq ?_
    refine E.CG.list ?_
    refine E.GL.run rfl rfl rfl (E.Runs.move rfl rfl) ?_
    refine E.GL.run rfl rfl rfl (E.Runs.move rfl rfl) ?_
    refine E.GL.cmp rfl rfl rfl (fun _ h => (E.Runs.lss rfl rfl rfl h)) (fun h41 => ?_) (fun h41 => ?_)
    · have hmT : m < T := by omega
      obtain ⟨hm0, hm1⟩ := mul_small (show (0 : Int) ≤ m by omega) (show (m : Int) ≤ 61 by omega) (show (0 : Int) ≤ ps.length by omega) (show (ps.length : Int) ≤ 6 by omega)
      obtain ⟨hm2, hm3⟩ := mul_small (show (0 : Int) ≤ (m : Int) + 1 by omega) (show (m : Int) + 1 ≤ 61 by omega) (show (0 : Int) ≤ ps.length by omega) (show (ps.length : Int) ≤ 6 by omega)
      refine E.GL.done ?_
      refine E.QG.code ?_
      refine E.CG.cond_t rfl ?_
      refine E.CG.skip ?_
      refine E.QG.code ?_
      refine E.CG.seq ?_
      refine E.CG.block ?_
      refine E.CG.list ?_
      refine E.GL.run rfl rfl rfl (E.Runs.move rfl rfl) ?_
      refine E.GL.run rfl rfl rfl (E.Runs.move rfl rfl) ?_
      refine E.GL.run rfl rfl rfl (E.Runs.move rfl rfl) ?_
      refine E.GL.run rfl rfl rfl (E.Runs.mul rfl rfl rfl (IntWalk.i64_in _ (by omega))) ?_
      refine E.GL.run rfl rfl rfl (E.Runs.add rfl rfl rfl (IntWalk.i64_in _ (by omega))) ?_
      refine E.GL.run rfl rfl rfl (E.Runs.move rfl rfl) ?_
      refine E.GL.run rfl rfl rfl (E.Runs.add rfl rfl rfl (IntWalk.i64_in _ (by omega))) ?_
      refine E.GL.run rfl rfl rfl (E.Runs.move rfl rfl) ?_
      refine E.GL.run rfl rfl rfl (E.Runs.add rfl rfl rfl (IntWalk.i64_in _ (by omega))) ?_
      refine E.GL.run rfl rfl rfl (E.Runs.move rfl rfl) ?_
      refine E.GL.run rfl rfl rfl (E.Runs.mul rfl rfl rfl (IntWalk.i64_in _ (by omega))) ?_
      refine E.GL.run rfl rfl rfl (E.Runs.add rfl rfl rfl (IntWalk.i64_in _ (by omega))) ?_
      refine E.GL.run rfl rfl rfl (E.Runs.move rfl rfl) ?_
      refine E.GL.run rfl rfl rfl (E.Runs.add rfl rfl rfl (IntWalk.i64_in _ (by omega))) ?_
      refine E.GL.run rfl rfl rfl (E.Runs.loads (cs := [.slice A ps.length c, .slice B qs.length d]) rfl rfl hu25 rfl info25s (blk_cells b2)) ?_
      refine E.GL.st rfl rfl rfl (E.ST.call rfl ent29 (E.evc rfl E.evn) ((all_calls ps qs A B c d _ (Kd.C_below hP L) hok.p (by omega)).mono ?_))
      rintro e w59 ⟨rfl, l59⟩
      refine ⟨_, rfl, ?_⟩
      replace b2 := blk_below b2 l59
      replace R8 := Kd.R_below R8 l59
      replace L := below_step L l59
      refine E.GL.st rfl rfl rfl (E.ST.call rfl ent65 (E.evc rfl (E.evc rfl (E.evc rfl (E.evc rfl E.evn)))) ((both_calls w.heap.size _ _ _ _ _ w _ R8 L L.size (by have := wl_src hok hT (s := s) (m := m) (by omega) (by omega) (ps.getD s 0); omega)).mono ?_))
      rintro e w60 ⟨v60, rfl, R60, k60, g60⟩
      refine ⟨_, rfl, ?_⟩
      replace b2 := blk_grown b2 g60 (Kd.R_ne R8 b2 (by decide))
      replace L := k60
      clear k60
      clear R8
      have R8 := R60
      clear R60 g60
      refine E.GL.run rfl rfl rfl (E.Runs.assign rfl rfl) ?_
      refine E.GL.done ?_
      refine E.QG.block_normal ?_
      refine E.QG.code ?_
      refine E.CG.list ?_
      refine E.GL.run rfl rfl rfl (E.Runs.move rfl rfl) ?_
      refine E.GL.run rfl rfl rfl (E.Runs.add rfl rfl rfl (IntWalk.i64_in _ (by omega))) ?_
      refine E.GL.run rfl rfl rfl (E.Runs.assign rfl rfl) ?_
      refine E.GL.done ?_
      exact E.QG.round2 (d := .slice none 0 0) (m + 1) _ (E.subc rfl (E.subc rfl (E.subc rfl (E.subc rfl (E.subc rfl (E.subc rfl (E.subc rfl E.subn))))))) ⟨by omega, by rw [edR_snoc, ← List.append_assoc, List.map_append, List.map_singleton, way0_snoc, xE_hold hmT]; exact R8, b2, L⟩ (by omega)
    · have hmT : m = T := by omega
      refine E.GL.done ?_
      refine E.QG.code ?_
      refine E.CG.cond_f rfl ?_
      refine E.CG.exit ?_
      refine E.QG.pass_exit ?_
      refine E.QG.pass_exit ?_
      refine E.QG.block_here ?_
      refine E.QG.block_normal ?_
      refine E.QG.code ?_
      refine E.CG.list ?_
      refine E.GL.run rfl rfl rfl (E.Runs.move rfl rfl) ?_
      refine E.GL.run rfl rfl rfl (E.Runs.add rfl rfl rfl (IntWalk.i64_in _ (by omega))) ?_
      refine E.GL.run rfl rfl rfl (E.Runs.assign rfl rfl) ?_
      refine E.GL.done ?_
      exact E.QG.round2 (d := .slice none 0 0) (s + 1) _ (E.subc rfl (E.subc rfl (E.subc rfl (E.subc rfl (E.subc rfl (E.subc rfl E.subn)))))) ⟨by omega, by subst hmT; exact R8, b2, L⟩ (by omega)
  · have hs4 : s = ps.length := by omega
    refine E.GL.done ?_
    refine E.QG.code ?_
    refine E.CG.cond_f rfl ?_
    refine E.CG.exit ?_
    refine E.QG.pass_exit ?_
    refine E.QG.pass_exit ?_
    refine E.QG.block_here ?_
    refine E.QG.code ?_
    refine E.CG.seq ?_
    refine E.CG.seq ?_
    refine E.CG.list ?_
    refine E.GL.run rfl rfl rfl (E.Runs.assign rfl rfl) ?_
    refine E.GL.done ?_
    refine E.QG.code ?_
    refine E.CG.block ?_
    have s12_b2 := b2
    have s12_L := L
    refine E.CG.loop2 (fun (i : Nat) (v8 : Value) => [(1, .int .i64 (T : Int)), (2, .pointer (some ⟨g2, 0, none⟩)), (6, .int .i64 ps.length), (7, .int .i64 ((lastN ps.length T : Nat) : Int)), (8, v8), (11, .int .i64 i)]) (fun i v8 w' => i ≤ qs.length ∧ Kd.R k95 95 w' w.heap.size (fun _ => True) v8 (way0 ((edRs T ps ps.length ++ edQs T qs i).map (xE ps T))) ∧ w'.heap[g2]? = some (.cells #[.slice A ps.length c, .slice B qs.length d] 25 (0, 0)) ∧ Below w.heap.size w w') (fun i v8 => qs.length - i) 0 _ (E.subc rfl (E.subc rfl (E.subc rfl (E.subc rfl (E.subc rfl (E.subc rfl E.subn)))))) ⟨Nat.zero_le _, by rw [show edQs T qs 0 = [] from rfl, List.append_nil, ← hs4]; exact R8, b2, L⟩ ?_
    rintro i v8 wl12 ⟨hi, R8, b2, L⟩
    refine E.CG.seq ?_
    refine E.CG.seq ?_
    refine E.CG.list ?_
    refine E.GL.run rfl rfl rfl (E.Runs.move rfl rfl) ?_
    refine E.GL.run rfl rfl rfl (E.Runs.fieldAddr rfl rfl hu25 rfl (by assumption) rfl) ?_
    refine E.GL.run rfl rfl rfl (E.Runs.load1 rfl rfl hu23 rfl (by first | assumption | exact E.blkc (by assumption) rfl | exact pw_cell_below L (by assumption))) ?_
    refine E.GL.run rfl rfl rfl (E.Runs.len rfl rfl hu23) ?_
    refine E.GL.cmp rfl rfl rfl (fun _ h => (E.Runs.lss rfl rfl rfl h)) (fun h65 => ?_) (fun h65 => ?_)
    · have hi2 : i < qs.length := by omega
      obtain ⟨q, hq⟩ : ∃ q, q = qs.getD i P.z45 := ⟨_, rfl⟩
      obtain ⟨aQ, eQ, cQ⟩ := pass_at hQ (show qs[i]? = some q by rw [hq]; exact getD_some hi2 _)
      have hqk : QOk ps.length q := by rw [hq]; exact hok.q _ (getD_mem (z := P.z45) hi2)
      obtain ⟨hq1, hq2, hq3, hq4, hq5, hq6, hq7, hq8, hq9⟩ := id hqk
      refine E.GL.done ?_
      refine E.QG.code ?_
      refine E.CG.cond_t rfl ?_
      refine E.CG.skip ?_
      refine E.QG.code ?_
      refine E.CG.seq ?_
      refine E.CG.block ?_
      refine E.CG.seq ?_
      refine E.CG.list ?_
      refine E.GL.run rfl rfl rfl (E.Runs.fieldAddr rfl rfl hu25 rfl (by assumption) rfl) ?_
      refine E.GL.run rfl rfl rfl (E.Runs.load1 rfl rfl hu23 rfl (by first | assumption | exact E.blkc (by assumption) rfl | exact pw_cell_below L (by assumption))) ?_
      refine E.GL.run rfl rfl rfl (E.Runs.move rfl rfl) ?_
      refine E.GL.run rfl rfl rfl (E.Runs.indexAddrA rfl rfl rfl hu23 z45 o45 (show (i : Int) < qs.length by omega) eQ rfl) ?_
      refine E.GL.run rfl rfl rfl (E.Runs.loads (cs := [.int .i64 q.f0, .int .i64 q.f1, .int .i64 q.f2, .int .i64 q.f3]) rfl rfl hu45 rfl info45s (fun j v hv => pw_cell_below L (cQ j v hv))) ?_
      refine E.GL.st rfl rfl rfl (E.ST.alloc rfl info45z fun g12 w12 e12 b12 l12 => ?_)
      have h12_L : w.heap.size ≤ g12 := by rw [e12]; exact L.size
      have n12_b2 : g2 ≠ g12 := by have := blk_lt b2; omega
      have n12_R8 : some g12 ≠ (v8).ownBlock := fun h => by have := Kd.R_lt R8 _ h.symm; omega
      replace b2 := blk_below b2 l12
      replace R8 := Kd.R_below R8 l12
      replace L := below_step L l12
      refine E.GL.store_whole rfl rfl rfl rfl rfl b12 rfl info45s (four_one _ _ _ _) fun wS14_6 c12 lS14_6 => ?_
      replace b2 := blk_grown b2 lS14_6 (E.nes (by first | assumption | exact Ne.symm (by assumption)))
      replace R8 := Kd.R_grown1 R8 rfl lS14_6 (by first | assumption | exact Kd.R_ne R8 b12 (by decide))
      replace L := E.below_own L h12_L lS14_6
      replace b12 := c12
      clear c12
      refine E.GL.done ?_
      refine E.QG.code ?_
      refine E.CG.seq ?_
      refine E.CG.list ?_
      refine E.GL.run rfl rfl rfl (E.Runs.assign rfl rfl) ?_
      refine E.GL.done ?_
      refine E.QG.code ?_
      refine E.CG.block ?_
      have s16_b2 := b2
      have s16_b12 := b12
      have s16_L := L
      refine E.CG.loop2 (fun (m : Nat) (v8 : Value) => [(1, .int .i64 (T : Int)), (2, .pointer (some ⟨g2, 0, none⟩)), (6, .int .i64 ps.length), (7, .int .i64 ((lastN ps.length T : Nat) : Int)), (8, v8), (11, .int .i64 i), (12, .pointer (some ⟨g12, 0, none⟩)), (13, .int .i64 m)]) (fun m v8 w' => m ≤ T + 1 - q.f3.toNat ∧ Kd.R k95 95 w' w.heap.size (fun _ => True) v8 (way0 ((edRs T ps ps.length ++ edQs T qs i ++ edQ T i q m).map (xE ps T))) ∧ w'.heap[g2]? = some (.cells #[.slice A ps.length c, .slice B qs.length d] 25 (0, 0)) ∧ w'.heap[g12]? = some (.cells #[.int .i64 q.f0, .int .i64 q.f1, .int .i64 q.f2, .int .i64 q.f3] 45 (0, 0)) ∧ Below w.heap.size w w') (fun m v8 => T + 1 - m) 0 _ (E.subc rfl (E.subc rfl (E.subc rfl (E.subc rfl (E.subc rfl (E.subc rfl (E.subc rfl (E.subc rfl E.subn)))))))) ⟨Nat.zero_le _, by rw [show edQ T i q 0 = [] from rfl, List.append_nil]; exact R8, b2, b12, L⟩ ?_
      rintro m v8 w16 ⟨hm, R8, b2, b12, L⟩
      refine E.CG.seq ?_
      refine E.CG.seq ?_
      refine E.CG.list ?_
      refine E.GL.run rfl rfl rfl (E.Runs.move rfl rfl) ?_
      refine E.GL.run rfl rfl rfl (E.Runs.fieldAddr rfl rfl hu45 rfl (by assumption) rfl) ?_
      refine E.GL.run rfl rfl rfl (E.Runs.load rfl rfl hu3 (by first | assumption | exact E.blkc (by assumption) rfl | exact pw_cell_below L (by assumption))) ?_
      refine E.GL.run rfl rfl rfl (E.Runs.add rfl rfl rfl (IntWalk.i64_in _ (by omega))) ?_
      refine E.GL.run rfl rfl rfl (E.Runs.move rfl rfl) ?_
      refine E.GL.cmp rfl rfl rfl (fun _ h => (E.Runs.leq rfl rfl rfl h)) (fun h78 => ?_) (fun h78 => ?_)
      · have hmq : m + q.f3.toNat < T + 1 := by omega
        obtain ⟨hm0, hm1⟩ := mul_small (show (0 : Int) ≤ m by omega) (show (m : Int) ≤ 61 by omega) (show (0 : Int) ≤ ps.length by omega) (show (ps.length : Int) ≤ 6 by omega)
        obtain ⟨hm2, hm3⟩ := mul_small (show (0 : Int) ≤ (m : Int) + q.f3 by omega) (show (m : Int) + q.f3 ≤ 61 by omega) (show (0 : Int) ≤ ps.length by omega) (show (ps.length : Int) ≤ 6 by omega)
        refine E.GL.done ?_
        refine E.QG.code ?_
        refine E.CG.cond_t rfl ?_
        refine E.CG.skip ?_
        refine E.QG.code ?_
        refine E.CG.seq ?_
        refine E.CG.block ?_
        refine E.CG.seq ?_
        refine E.CG.list ?_
        refine E.GL.run rfl rfl rfl (E.Runs.move rfl rfl) ?_
        refine E.GL.run rfl rfl rfl (E.Runs.assign rfl rfl) ?_
        refine E.GL.done ?_
        refine E.QG.code ?_
        refine E.CG.seq ?_
        refine E.CG.seq ?_
        refine E.CG.list ?_
        refine E.GL.run rfl rfl rfl (E.Runs.fieldAddr rfl rfl hu45 rfl (by assumption) rfl) ?_
        refine E.GL.run rfl rfl rfl (E.Runs.load rfl rfl hu3 (by first | assumption | exact E.blkc (by assumption) rfl | exact pw_cell_below L (by assumption))) ?_
        refine E.GL.cmpn rfl rfl rfl (fun _ h => (E.Runs.neq rfl rfl rfl h)) (fun h84 => ?_) (fun h84 => ?_)
        · have htx : toX ps.length T q m = 1 + ((m : Int) + q.f3) * ps.length + q.f1 := by unfold toX; rw [if_neg h84]
          refine E.GL.done ?_
          refine E.QG.code ?_
          refine E.CG.cond_t rfl ?_
          refine E.CG.list ?_
          refine E.GL.run rfl rfl rfl (E.Runs.move rfl rfl) ?_
          refine E.GL.run rfl rfl rfl (E.Runs.fieldAddr rfl rfl hu45 rfl (by assumption) rfl) ?_
          refine E.GL.run rfl rfl rfl (E.Runs.load rfl rfl hu3 (by first | assumption | exact E.blkc (by assumption) rfl | exact pw_cell_below L (by assumption))) ?_
          refine E.GL.run rfl rfl rfl (E.Runs.add rfl rfl rfl (IntWalk.i64_in _ (by omega))) ?_
          refine E.GL.run rfl rfl rfl (E.Runs.move rfl rfl) ?_
          refine E.GL.run rfl rfl rfl (E.Runs.mul rfl rfl rfl (IntWalk.i64_in _ (by omega))) ?_
          refine E.GL.run rfl rfl rfl (E.Runs.add rfl rfl rfl (IntWalk.i64_in _ (by omega))) ?_
          refine E.GL.run rfl rfl rfl (E.Runs.fieldAddr rfl rfl hu45 rfl (by assumption) rfl) ?_
          refine E.GL.run rfl rfl rfl (E.Runs.load rfl rfl hu3 (by first | assumption | exact E.blkc (by assumption) rfl | exact pw_cell_below L (by assumption))) ?_
          refine E.GL.run rfl rfl rfl (E.Runs.add rfl rfl rfl (IntWalk.i64_in _ (by omega))) ?_
          refine E.GL.run rfl rfl rfl (E.Runs.assign rfl rfl) ?_
          refine E.GL.done ?_
          refine E.QG.code ?_
          refine E.CG.list ?_
          refine E.GL.run rfl rfl rfl (E.Runs.move rfl rfl) ?_
          refine E.GL.run rfl rfl rfl (E.Runs.move rfl rfl) ?_
          refine E.GL.run rfl rfl rfl (E.Runs.move rfl rfl) ?_
          refine E.GL.run rfl rfl rfl (E.Runs.mul rfl rfl rfl (IntWalk.i64_in _ (by omega))) ?_
          refine E.GL.run rfl rfl rfl (E.Runs.add rfl rfl rfl (IntWalk.i64_in _ (by omega))) ?_
          refine E.GL.run rfl rfl rfl (E.Runs.fieldAddr rfl rfl hu45 rfl (by assumption) rfl) ?_
          refine E.GL.run rfl rfl rfl (E.Runs.load rfl rfl hu3 (by first | assumption | exact E.blkc (by assumption) rfl | exact pw_cell_below L (by assumption))) ?_
          refine E.GL.run rfl rfl rfl (E.Runs.add rfl rfl rfl (IntWalk.i64_in _ (by omega))) ?_
          refine E.GL.run rfl rfl rfl (E.Runs.move rfl rfl) ?_
          refine E.GL.run rfl rfl rfl (E.Runs.fieldAddr rfl rfl hu45 rfl (by assumption) rfl) ?_
          refine E.GL.run rfl rfl rfl (E.Runs.load rfl rfl hu3 (by first | assumption | exact E.blkc (by assumption) rfl | exact pw_cell_below L (by assumption))) ?_
          refine E.GL.st rfl rfl rfl (E.ST.call rfl ent65 (E.evc rfl (E.evc rfl (E.evc rfl (E.evc rfl E.evn)))) ((both_calls w.heap.size _ _ _ _ _ w _ R8 L L.size (by have := wl_qs hok hT (i := i) (m := m) (by omega) (by omega) q; omega)).mono ?_))
          rintro e w106 ⟨v106, rfl, R106, k106, g106⟩
          refine ⟨_, rfl, ?_⟩
          replace b2 := blk_grown b2 g106 (Kd.R_ne R8 b2 (by decide))
          replace L := k106
          clear k106
          replace b12 := blk_grown b12 g106 (Kd.R_ne R8 b12 (by decide))
          clear R8
          have R8 := R106
          clear R106 g106
          refine E.GL.run rfl rfl rfl (E.Runs.assign rfl rfl) ?_
          refine E.GL.done ?_
          refine E.QG.block_normal ?_
          refine E.QG.code ?_
          refine E.CG.list ?_
          refine E.GL.run rfl rfl rfl (E.Runs.move rfl rfl) ?_
          refine E.GL.run rfl rfl rfl (E.Runs.add rfl rfl rfl (IntWalk.i64_in _ (by omega))) ?_
          refine E.GL.run rfl rfl rfl (E.Runs.assign rfl rfl) ?_
          refine E.GL.done ?_
          exact E.QG.round2 (d := .slice none 0 0) (m + 1) _ (E.subc rfl (E.subc rfl (E.subc rfl (E.subc rfl (E.subc rfl (E.subc rfl (E.subc rfl (E.subc rfl E.subn)))))))) ⟨by omega, by rw [edQ_snoc, ← List.append_assoc, List.map_append, List.map_singleton, way0_snoc, xE_pass hqk hmq, htx]; exact R8, b2, b12, L⟩ (by omega)
        · have htx : toX ps.length T q m = ((lastN ps.length T : Nat) : Int) := by unfold toX; rw [if_pos h84]
          refine E.GL.done ?_
          refine E.QG.code ?_
          refine E.CG.cond_f rfl ?_
          refine E.CG.skip ?_
          refine E.QG.code ?_
          refine E.CG.list ?_
          refine E.GL.run rfl rfl rfl (E.Runs.move rfl rfl) ?_
          refine E.GL.run rfl rfl rfl (E.Runs.move rfl rfl) ?_
          refine E.GL.run rfl rfl rfl (E.Runs.move rfl rfl) ?_
          refine E.GL.run rfl rfl rfl (E.Runs.mul rfl rfl rfl (IntWalk.i64_in _ (by omega))) ?_
          refine E.GL.run rfl rfl rfl (E.Runs.add rfl rfl rfl (IntWalk.i64_in _ (by omega))) ?_
          refine E.GL.run rfl rfl rfl (E.Runs.fieldAddr rfl rfl hu45 rfl (by assumption) rfl) ?_
          refine E.GL.run rfl rfl rfl (E.Runs.load rfl rfl hu3 (by first | assumption | exact E.blkc (by assumption) rfl | exact pw_cell_below L (by assumption))) ?_
          refine E.GL.run rfl rfl rfl (E.Runs.add rfl rfl rfl (IntWalk.i64_in _ (by omega))) ?_
          refine E.GL.run rfl rfl rfl (E.Runs.move rfl rfl) ?_
          refine E.GL.run rfl rfl rfl (E.Runs.fieldAddr rfl rfl hu45 rfl (by assumption) rfl) ?_
          refine E.GL.run rfl rfl rfl (E.Runs.load rfl rfl hu3 (by first | assumption | exact E.blkc (by assumption) rfl | exact pw_cell_below L (by assumption))) ?_
          refine E.GL.st rfl rfl rfl (E.ST.call rfl ent65 (E.evc rfl (E.evc rfl (E.evc rfl (E.evc rfl E.evn)))) ((both_calls w.heap.size _ _ _ _ _ w _ R8 L L.size (by have := wl_qs hok hT (i := i) (m := m) (by omega) (by omega) q; omega)).mono ?_))
          rintro e w106 ⟨v106, rfl, R106, k106, g106⟩
          refine ⟨_, rfl, ?_⟩
          replace b2 := blk_grown b2 g106 (Kd.R_ne R8 b2 (by decide))
          replace L := k106
          clear k106
          replace b12 := blk_grown b12 g106 (Kd.R_ne R8 b12 (by decide))
          clear R8
          have R8 := R106
          clear R106 g106
          refine E.GL.run rfl rfl rfl (E.Runs.assign rfl rfl) ?_
          refine E.GL.done ?_
          refine E.QG.block_normal ?_
          refine E.QG.code ?_
          refine E.CG.list ?_
          refine E.GL.run rfl rfl rfl (E.Runs.move rfl rfl) ?_
          refine E.GL.run rfl rfl rfl (E.Runs.add rfl rfl rfl (IntWalk.i64_in _ (by omega))) ?_
          refine E.GL.run rfl rfl rfl (E.Runs.assign rfl rfl) ?_
          refine E.GL.done ?_
          exact E.QG.round2 (d := .slice none 0 0) (m + 1) _ (E.subc rfl (E.subc rfl (E.subc rfl (E.subc rfl (E.subc rfl (E.subc rfl (E.subc rfl (E.subc rfl E.subn)))))))) ⟨by omega, by rw [edQ_snoc, ← List.append_assoc, List.map_append, List.map_singleton, way0_snoc, xE_pass hqk hmq, htx]; exact R8, b2, b12, L⟩ (by omega)
      · have hmT : m = T + 1 - q.f3.toNat := by omega
        refine E.GL.done ?_
        refine E.QG.code ?_
        refine E.CG.cond_f rfl ?_
        refine E.CG.exit ?_
        refine E.QG.pass_exit ?_
        refine E.QG.pass_exit ?_
        refine E.QG.block_here ?_
        refine E.QG.block_normal ?_
        refine E.QG.code ?_
        refine E.CG.list ?_
        refine E.GL.run rfl rfl rfl (E.Runs.move rfl rfl) ?_
        refine E.GL.run rfl rfl rfl (E.Runs.add rfl rfl rfl (IntWalk.i64_in _ (by omega))) ?_
        refine E.GL.run rfl rfl rfl (E.Runs.assign rfl rfl) ?_
        refine E.GL.done ?_
        exact E.QG.round2 (d := .slice none 0 0) (i + 1) _ (E.subc rfl (E.subc rfl (E.subc rfl (E.subc rfl (E.subc rfl (E.subc rfl E.subn)))))) ⟨by omega, by rw [List.append_assoc] at R8; subst hq hmT; exact R8, b2, L⟩ (by omega)
    · have hi4 : i = qs.length := by omega
      refine E.GL.done ?_
      refine E.QG.code ?_
      refine E.CG.cond_f rfl ?_
      refine E.CG.exit ?_
      refine E.QG.pass_exit ?_
      refine E.QG.pass_exit ?_
      refine E.QG.block_here ?_
      refine E.QG.code ?_
      refine E.CG.seq ?_
      refine E.CG.list ?_
      refine E.GL.run rfl rfl rfl (E.Runs.move rfl rfl) ?_
      refine E.GL.run rfl rfl rfl (E.Runs.move rfl rfl) ?_
      refine E.GL.run rfl rfl rfl (E.Runs.assign rfl rfl) ?_
      refine E.GL.run rfl rfl rfl (E.Runs.assign rfl rfl) ?_
      refine E.GL.done ?_
      refine E.QG.code ?_
      refine E.CG.ret ?_
      exact E.QG.result2 rfl rfl rfl ⟨_, rfl, by unfold edX edH; rw [← hi4]; exact R8, L⟩

end Go.Proofs.Ytmnjlnkfihklgaa.T
namespace Go.Proofs.Ytmnjlnkfihklgaa.T
open Go.RowKit Go.Proofs.YtmnjlnkfihklgaaW.PrintWords Go.Proofs.YtmnjlnkfihklgaaW.PrintMore
open Go.Proofs.Ytmnjlnkfihklgaa.P
set_option linter.unusedVariables false
/-- All ways lie between nodes that there are. -/
def WsOk (ls : List S95) (n : Nat) : Prop := ∀ x ∈ ls, 0 ≤ x.f0 ∧ x.f0 < n ∧ 0 ≤ x.f1 ∧ x.f1 < n
/-- Where the search stands. -/
structure Pb (ls : List S95) (n : Nat) (V : List Nat) (bl : List Int) : Prop where
  nd : V.Nodup
  lt : ∀ x ∈ V, x < n
  v0 : V[0]? = some 0
  lb : bl.length = n
  is : ∀ v, v < n → (¬ bl[v]? = some 0 ↔ v ∈ V ∧ v ≠ 0)
  nn : ∀ x ∈ bl, 0 ≤ x
  back : ∀ (j v : Nat), V[j]? = some v → 0 < j → ∃ (j' k : Nat) (x : S95), j' < j ∧ ls[k]? = some x ∧ V[j']? = some x.f0.toNat ∧ bl[v]? = some ((k : Int) + 1) ∧ x.f1 = v ∧ 0 < x.f2
/-- Whose ways have been looked at. -/
def Dn (ls : List S95) (V : List Nat) (p : Nat) : Prop := ∀ (j v : Nat), j < p → V[j]? = some v → ∀ x ∈ ls, x.f0 = v → 0 < x.f2 → x.f1.toNat ∈ V
def Dk (ls : List S95) (V : List Nat) (u k : Nat) : Prop := ∀ (i : Nat) (x : S95), i < k → ls[i]? = some x → x.f0 = u → 0 < x.f2 → x.f1.toNat ∈ V
section
variable {ls : List S95} {n : Nat} {V : List Nat} {bl : List Int}
theorem Pb.few (h : Pb ls n V bl) : V.length ≤ n := by
  have := nodup_len (k := List.range n) h.nd (fun x hx => List.mem_range.mpr (h.lt x hx))
  simpa using this
theorem Pb.start (hn : 0 < n) : Pb ls n [0] (List.replicate n 0) := by
  refine ⟨by simp, fun x hx => ?_, rfl, by simp, fun v hv => ?_, fun x hx => ?_, fun j v hj h0 => ?_⟩
  · obtain rfl : x = 0 := by simpa using hx
    exact hn
  · rw [List.getElem?_replicate, if_pos hv]
    simp
  · rw [List.mem_replicate] at hx
    omega
  · obtain ⟨j, rfl⟩ : ∃ i, j = i + 1 := ⟨j - 1, by omega⟩
    simp at hj
theorem Pb.found {p u k t : Nat} {x : S95} (h : Pb ls n V bl) (hu : V[p]? = some u) (hx : ls[k]? = some x) (h0 : x.f0 = u) (h1 : 0 < x.f2) (ht : x.f1 = t) (htn : t < n) (ht0 : t ≠ 0) (hb : bl[t]? = some 0) : Pb ls n (V ++ [t]) (bl.set t ((k : Int) + 1)) := by
  have htV : t ∉ V := fun q => (h.is t htn).mpr ⟨q, ht0⟩ hb
  have hpl := (List.getElem?_eq_some_iff.1 hu).1
  have hl0 := (List.getElem?_eq_some_iff.1 h.v0).1
  refine ⟨nodup_snoc h.nd htV, fun y hy => ?_, ?_, by simp [h.lb], fun v hv => ?_, fun y hy => ?_, fun j v hj hj0 => ?_⟩
  · rcases List.mem_append.mp hy with q | q
    · exact h.lt y q
    · obtain rfl : y = t := by simpa using q
      exact htn
  · rw [List.getElem?_append_left (by omega)]
    exact h.v0
  · by_cases e : v = t
    · subst e
      rw [List.getElem?_set_self (by rw [h.lb]; exact htn)]
      refine iff_of_true (fun q => ?_) ⟨by simp, ht0⟩
      injection q with q
      omega
    · rw [List.getElem?_set_ne (fun q => e q.symm), h.is v hv]
      simp [e]
  · rcases List.mem_or_eq_of_mem_set hy with q | q
    · exact h.nn y q
    · omega
  · by_cases hlt : j < V.length
    · rw [List.getElem?_append_left hlt] at hj
      obtain ⟨j', k', y, q1, q2, q3, q4, q5, q6⟩ := h.back j v hj hj0
      refine ⟨j', k', y, q1, q2, ?_, ?_, q5, q6⟩
      · rw [List.getElem?_append_left (by omega)]; exact q3
      · rw [List.getElem?_set_ne (fun q => htV (by subst q; exact List.mem_of_getElem? hj))]
        exact q4
    · rw [List.getElem?_append_right (by omega)] at hj
      have hj2 := (List.getElem?_eq_some_iff.1 hj).1
      simp only [List.length_singleton] at hj2
      rw [show j - V.length = 0 by omega] at hj
      obtain rfl : t = v := by simpa using hj
      refine ⟨p, k, x, by omega, hx, ?_, ?_, ht, h1⟩
      · rw [List.getElem?_append_left hpl, hu, h0]
        simp
      · rw [List.getElem?_set_self (by rw [h.lb]; exact htn)]
theorem Dn.more {p t : Nat} (h : Dn ls V p) (hp : p ≤ V.length) : Dn ls (V ++ [t]) p := fun j v hj hv x hx a b => by
  rw [List.getElem?_append_left (by omega)] at hv
  exact List.mem_append_left _ (h j v hj hv x hx a b)
theorem Dk.first (u : Nat) : Dk ls V u 0 := fun i x hi => by omega
theorem Dk.found {u k t : Nat} {x : S95} (h : Dk ls V u k) (hx : ls[k]? = some x) (ht : x.f1 = t) : Dk ls (V ++ [t]) u (k + 1) := fun i y hi hy a b => by
  by_cases e : i = k
  · subst e
    rw [hx] at hy
    cases hy
    rw [ht]
    simp
  · exact List.mem_append_left _ (h i y (by omega) hy a b)
theorem Dk.not {u k : Nat} {x : S95} (h : Dk ls V u k) (hx : ls[k]? = some x) (hn : x.f0 = u → 0 < x.f2 → x.f1.toNat ∈ V) : Dk ls V u (k + 1) := fun i y hi hy a b => by
  by_cases e : i = k
  · subst e
    rw [hx] at hy
    cases hy
    exact hn a b
  · exact h i y (by omega) hy a b
theorem Dn.next {p u k : Nat} (h : Dn ls V p) (hu : V[p]? = some u) (hk : Dk ls V u k) (hl : ls.length ≤ k) : Dn ls V (p + 1) := fun j v hj hv x hx a b => by
  by_cases e : j = p
  · subst e
    rw [hu] at hv
    cases hv
    obtain ⟨i, hi⟩ := List.mem_iff_getElem?.mp hx
    exact hk i x (by have := (List.getElem?_eq_some_iff.1 hi).1; omega) hi a b
  · exact h j v (by omega) hv x hx a b
/-- Why a way is not taken. -/
theorem Pb.why {x : S95} (h : Pb ls n V bl) (hW : 0 ≤ x.f1 ∧ x.f1 < n) (hn : x.f1 = 0 ∨ ¬ bl[x.f1.toNat]? = some 0) : x.f1.toNat ∈ V := by
  rcases hn with q | q
  · rw [q]
    exact List.mem_of_getElem? h.v0
  · exact ((h.is _ (by omega)).mp q).1
/-- A way from the first node, its last step first. -/
def Wl (ls : List S95) (d : Nat → Nat) : Nat → List Int → Prop
  | v, [] => v = 0
  | v, i :: r => v ≠ 0 ∧ ∃ (k : Nat) (x : S95), i = k ∧ ls[k]? = some x ∧ x.f1 = v ∧ 0 < x.f2 ∧ d x.f0.toNat < d v ∧ Wl ls d x.f0.toNat r
/-- What the search returns. -/
def PathOk (ls : List S95) (last : Nat) (P : List Int) (b : Bool) : Prop :=
  (b = true → ∃ d, Wl ls d last P) ∧ (b = false → ∃ S : Nat → Prop, S 0 ∧ ¬ S last ∧ ∀ x ∈ ls, S x.f0.toNat → 0 < x.f2 → S x.f1.toNat)
/-- So much of the way is told. -/
def Wp (ls : List S95) (d : Nat → Nat) (last v : Nat) (P : List Int) : Prop := ∀ r, Wl ls d v r → Wl ls d last (P ++ r)
theorem Wp.first (ls : List S95) (d : Nat → Nat) (v : Nat) : Wp ls d v v [] := fun r h => h
theorem Wp.step {d : Nat → Nat} {last v k : Nat} {P : List Int} {x : S95} (h : Wp ls d last v P) (hv : v ≠ 0) (hx : ls[k]? = some x) (h1 : x.f1 = v) (h2 : 0 < x.f2) (h3 : d x.f0.toNat < d v) : Wp ls d last x.f0.toNat (P ++ [(k : Int)]) := fun r hr => by
  have := h ((k : Int) :: r) ⟨hv, k, x, rfl, hx, h1, h2, h3, hr⟩
  rw [List.append_assoc]
  exact this
theorem Pb.at_ (h : Pb ls n V bl) {v : Nat} (hv : v ∈ V) (h0 : v ≠ 0) : ∃ (k : Nat) (x : S95), ls[k]? = some x ∧ bl[v]? = some ((k : Int) + 1) ∧ x.f1 = v ∧ 0 < x.f2 ∧ x.f0.toNat ∈ V ∧ V.idxOf x.f0.toNat < V.idxOf v := by
  obtain ⟨j, hj⟩ := List.mem_iff_getElem?.mp hv
  have hj0 : 0 < j := by
    rcases Nat.eq_zero_or_pos j with e | e
    · subst e
      rw [h.v0] at hj
      exact absurd (Option.some.inj hj).symm h0
    · exact e
  obtain ⟨j', k, x, q1, q2, q3, q4, q5, q6⟩ := h.back j v hj hj0
  have idx_of : ∀ {k : Nat} {a : Nat}, V[k]? = some a → V.idxOf a = k := fun {k a} hk => by
    have h1 : V.idxOf a < V.length := List.idxOf_lt_length_of_mem (List.mem_of_getElem? hk)
    exact nodup_inj h.nd (by rw [List.getElem?_eq_getElem h1, List.getElem_idxOf h1]) hk
  exact ⟨k, x, q2, q4, q5, q6, List.mem_of_getElem? q3, by rw [idx_of q3, idx_of hj]; exact q1⟩
theorem Pb.closed (h : Pb ls n V bl) (hW : WsOk ls n) (hd : Dn ls V V.length) {last : Nat} (hl : last < n) (hb : bl[last]? = some 0) (hl0 : last ≠ 0) (P : List Int) : PathOk ls last P false := by
  refine ⟨fun q => (by cases q), fun _ => ⟨fun v => v ∈ V, List.mem_of_getElem? h.v0, fun q => (h.is last hl).mpr ⟨q, hl0⟩ hb, fun x hx a b => ?_⟩⟩
  obtain ⟨j, hj⟩ := List.mem_iff_getElem?.mp a
  have := hW x hx
  exact hd j _ (List.getElem?_eq_some_iff.1 hj).1 hj x hx (by omega) b
end
/-! ### In memory -/
structure Qm (w0 w : World) (gB cB n : Nat) (bl : List Int) (v7 : Value) (rw_ : List Int) : Prop where
  by_ : Kd.R kI 3 w w0.heap.size (fun _ => True) (.slice (some ⟨gB, 0, none⟩) n cB) bl
  row : Kd.R kI 3 w w0.heap.size (fun _ => True) v7 rw_
  ap : v7.ownBlock ≠ some gB
  bel : Below w0.heap.size w0 w
  size : w0.heap.size ≤ w.heap.size
section
variable {w0 w w' : World} {gB cB n : Nat} {bl : List Int} {v7 : Value} {rw_ : List Int}
theorem Qm.below (h : Qm w0 w gB cB n bl v7 rw_) (l : Below w.heap.size w w') : Qm w0 w' gB cB n bl v7 rw_ :=
  ⟨Kd.R_below h.by_ l, Kd.R_below h.row l, h.ap, below_step' h.bel h.size l, Nat.le_trans h.size l.size⟩
theorem Qm.set (h : Qm w0 w gB cB n bl v7 rw_) {i : Nat} {x : Int} (hi : bl[i]? = some x) :
    w.cell? ⟨gB, i * 1, none⟩ = some (.int .i64 x) ∧ w.frozen? ⟨gB, i * 1, none⟩ = false ∧ (∀ y : Int, ∃ w', w' = w.setCell ⟨gB, i * 1, none⟩ (.int .i64 y) ∧ Qm w0 w' gB cB n (bl.set i y) v7 rw_) := by
  obtain ⟨g, eA, hg, c1, fr, ⟨cells, hc⟩, st⟩ := rowI_at h.by_ hi
  injection eA with eA
  injection eA with eA
  subst eA
  refine ⟨c1, fr, fun y => ?_⟩
  obtain ⟨w', hw', R', g'⟩ := st y
  refine ⟨w', hw', R', ?_, h.ap, h.bel.grown g' h.size (fun z ez => by cases ez; exact hg), Nat.le_trans h.size g'.size⟩
  exact Kd.R_mono (Kd.R_grown (Kd.R_tight rfl h.row) g' (fun k hk ek => h.ap (by rw [← hk, ek]))) (fun _ _ => trivial)
theorem Qm.app (h : Qm w0 w gB cB n bl v7 rw_) {v1 : Value} {ys : List Int} (r : Kd.R kI 3 w' w0.heap.size (fun _ => True) v1 ys) (k : Below w0.heap.size w0 w') (g : w.grownBy w' v7.ownBlock) (o : v1.ownBlock = v7.ownBlock ∨ ∃ b, v1.ownBlock = some b ∧ w.heap.size ≤ b) : Qm w0 w' gB cB n bl v1 ys := by
  refine ⟨Kd.R_mono (Kd.R_grown (Kd.R_tight rfl h.by_) g (fun k hk ek => h.ap (ek.symm.trans (hk.trans rfl)))) (fun _ _ => trivial), r, ?_, k, Nat.le_trans h.size g.size⟩
  rcases o with o | ⟨b, o, hb⟩
  · rw [o]
    exact h.ap
  · rw [o]
    intro e
    injection e with e
    have := Kd.R_lt h.by_ gB rfl
    omega
end
theorem ways_at {w : World} {A : Option Addr} {n : Nat} {l : List S95} (h : Kd.C k95 w A n l) {i : Nat} {x : S95} (hi : l[i]? = some x) : ∃ ad, A = some ad ∧ ∀ j u, ([.int .i64 x.f0, .int .i64 x.f1, .int .i64 x.f2] : List Value)[j]? = some u → w.cell? ((ad.add (i * 3)).add j) = some u := by
  have hil : i < l.length := (List.getElem?_eq_some_iff.1 hi).1
  have hn := Kd.C_len h
  obtain ⟨ad, c, e, _, hK, hc0⟩ := Kd.C_get h x (i : Int) (by omega) (by omega)
  have hx : l.getD i x = x := by simp [List.getD_eq_getElem?_getD, hi]
  rw [Int.toNat_natCast, hx] at hK
  rw [Int.toNat_natCast] at hc0
  obtain rfl := k95_open hK
  refine ⟨ad, e, fun j u hu => ?_⟩
  have := hc0 j u hu
  rw [← this]
  congr 1
  exact add_add _ _ _
end Go.Proofs.Ytmnjlnkfihklgaa.T
namespace Go.Proofs.Ytmnjlnkfihklgaa.T
open Go.RowKit Go.Proofs.YtmnjlnkfihklgaaW.PrintWords Go.Proofs.YtmnjlnkfihklgaaW.PrintMore
open Go.Proofs.Ytmnjlnkfihklgaa.P
set_option linter.unusedVariables false
set_option linter.unusedSimpArgs false

structure Pg where
  V : List Nat
  bl : List Int
  p : Nat
structure Pw where
  at_ : Nat
  P : List Int
abbrev ints (V : List Nat) : List Int := V.map (fun v : Nat => (v : Int))
theorem ints_snoc (V : List Nat) (t : Nat) : ints V ++ [(t : Int)] = ints (V ++ [t]) := by simp [ints]
theorem ints_get {V : List Nat} {j v : Nat} (h : V[j]? = some v) : (ints V)[j]? = some (v : Int) := by simp [ints, h]
set_option maxRecDepth 100000 in
set_option maxHeartbeats 8000000 in

theorem path_calls (ls : List S95) (A : Option Addr) (c last : Nat) (w : World) (hL : Kd.C k95 w A ls.length ls) (hW : WsOk ls (last + 1)) (hl1 : 1 ≤ last) (hl2 : last ≤ 10000) (hlen : ls.length ≤ 100000) :
    Calls Try.prog 63 #[.slice A ls.length c, .int .i64 last] w fun e w' => ∃ v P b, e = .returned (.tuple #[v, .bool b]) ∧ Kd.R kI 3 w' w.heap.size (fun _ => True) v P ∧ PathOk ls last P b ∧ Below w.heap.size w w' := by
  have hu3 := Try.underlying3
  have hu22 := Try.underlying22
  have hu89 := Try.underlying89
  have hu95 := Try.underlying95
  obtain ⟨z3, o3⟩ := info_some info3s (by decide)
  obtain ⟨z22, o22⟩ := info_some info22s (by decide)
  obtain ⟨z95, o95⟩ := info_some info95s (by decide)
  refine E.enter (N := 122) Try.func63 rfl Try.ntmps63 (args := [.slice A ls.length c, .int .i64 last]) (by simp) ?_
  have L := Below.refl w.heap.size w
  refine E.CG.seq ?_
  refine E.CG.list ?_
  refine E.GL.run rfl rfl rfl (E.Runs.assign rfl rfl) ?_
  refine E.GL.run rfl rfl rfl (E.Runs.assign rfl rfl) ?_
  refine E.GL.done ?_
  refine E.QG.code ?_
  refine E.CG.seq ?_
  refine E.CG.list ?_
  refine E.GL.run rfl rfl rfl (E.Runs.move rfl rfl) ?_
  refine E.GL.run rfl rfl rfl (E.Runs.add rfl rfl rfl (IntWalk.i64_in _ (by omega))) ?_
  refine E.GL.st rfl rfl rfl (E.ST.makeR kI w.heap.size 3 rfl rfl (m := last + 1) (by push_cast; rfl) (by push_cast; rfl) hu22 (.int .i64 0) 8 info3 rfl (by decide) (by decide) 0 rfl (by omega) L L.size fun u14 w14 r14 k14 l14 o14 => ?_)
  obtain ⟨gB, cB, hvB, hgB, hgB2, _⟩ := Kd.R_form r14 (by simp)
  rw [List.length_replicate] at hvB
  subst hvB
  have L14 := k14
  have hsz14 := Nat.le_trans L.size l14.size
  refine E.GL.run rfl rfl rfl (E.Runs.assign rfl rfl) ?_
  refine E.GL.done ?_
  refine E.QG.code ?_
  refine E.CG.seq ?_
  refine E.CG.list ?_
  refine E.GL.st rfl rfl rfl (E.ST.litAt kI w.heap.size (w0 := w) (ys := [0]) (inner := [.int .i64 0]) rfl rfl (E.epc rfl E.epn) (lit22 0) (reps_int1 _ _ _) L14 hsz14 (by simp) fun u15 w15 r15 k15 l15 n15 => ?_)
  have hM : Qm w w15 gB cB (last + 1) (List.replicate (last + 1) 0) u15 (ints [0]) := ⟨Kd.R_below r14 l15, r15, fun e => by obtain ⟨b, h1, h2⟩ := n15; rw [h1] at e; injection e with e; omega, k15, Nat.le_trans hsz14 l15.size⟩
  refine E.GL.run rfl rfl rfl (E.Runs.assign rfl rfl) ?_
  refine E.GL.done ?_
  refine E.QG.code ?_
  refine E.CG.seq ?_
  refine E.CG.seq ?_
  refine E.CG.list ?_
  refine E.GL.run rfl rfl rfl (E.Runs.assign rfl rfl) ?_
  refine E.GL.done ?_
  refine E.QG.code ?_
  refine E.CG.block ?_
  refine E.CG.loop2 (fun (s : Pg) (v7 : Value) => [(0, .slice A ls.length c), (1, .int .i64 last), (6, .slice (some ⟨gB, 0, none⟩) (last + 1) cB), (7, v7), (8, .int .i64 s.p)]) (fun s v7 w' => Pb ls (last + 1) s.V s.bl ∧ Dn ls s.V s.p ∧ s.p ≤ s.V.length ∧ Qm w w' gB cB (last + 1) s.bl v7 (ints s.V)) (fun s v7 => last + 2 - s.p) ⟨[0], List.replicate (last + 1) 0, 0⟩ u15 (E.subc rfl (E.subc rfl (E.subc rfl (E.subc rfl (E.subc rfl E.subn))))) ⟨Pb.start (by omega), fun j v hj => absurd hj (Nat.not_lt_zero j), Nat.zero_le _, hM⟩ ?_
  rintro s v7 w4 ⟨hb, hd, hp, hM⟩
  obtain ⟨A7, c7, e7⟩ := Kd.R_slice hM.row
  rw [List.length_map] at e7
  subst e7
  refine E.CG.seq ?_
  refine E.CG.seq ?_
  obtain ⟨yl, hbl⟩ : ∃ y, s.bl[last]? = some y := ⟨_, List.getElem?_eq_getElem (by rw [hb.lb]; omega)⟩
  have hcl := (hM.set hbl).1
  have hpl := hb.few
  refine E.CG.list ?_
  refine E.GL.run rfl rfl rfl (E.Runs.move rfl rfl) ?_
  refine E.GL.run rfl rfl rfl (E.Runs.move rfl rfl) ?_
  refine E.GL.run rfl rfl rfl (E.Runs.len rfl rfl hu22) ?_
  refine E.GL.cmp rfl rfl rfl (fun _ h => (E.Runs.lss rfl rfl rfl h)) (fun h19 => ?_) (fun h19 => ?_)
  · refine E.GL.run rfl rfl rfl (E.Runs.move rfl rfl) ?_
    refine E.GL.run rfl rfl rfl (E.Runs.move rfl rfl) ?_
    refine E.GL.run rfl rfl rfl (E.Runs.move rfl rfl) ?_
    refine E.GL.run rfl rfl rfl (E.Runs.indexAddrA (i := last) rfl rfl rfl hu22 z3 o3 (by omega) rfl (show _ = (⟨gB, last * 1, none⟩ : Addr) from by rw [Go.Addr.add_mid, Nat.zero_add])) ?_
    refine E.GL.run rfl rfl rfl (E.Runs.load rfl rfl hu3 hcl) ?_
    refine E.GL.cmp rfl rfl rfl (fun _ h => (E.Runs.eql rfl rfl rfl h)) (fun h25 => ?_) (fun h25 => ?_)
    · refine E.GL.run rfl rfl rfl (E.Runs.pick_t rfl rfl rfl) ?_
      refine E.GL.done ?_
      refine E.QG.code ?_
      refine E.CG.cond_t rfl ?_
      refine E.CG.skip ?_
      refine E.QG.code ?_
      refine E.CG.seq ?_
      refine E.CG.block ?_
      refine E.CG.seq ?_
      refine E.CG.list ?_
      refine E.GL.run rfl rfl rfl (E.Runs.assign rfl rfl) ?_
      refine E.GL.done ?_
      refine E.QG.code ?_
      refine E.CG.block ?_
      have hps : s.p < s.V.length := by omega
      obtain ⟨u, hu⟩ : ∃ u, s.V[s.p]? = some u := ⟨_, List.getElem?_eq_getElem hps⟩
      refine E.CG.loop2 (fun (s2 : Pg) (v7 : Value) => [(0, .slice A ls.length c), (1, .int .i64 last), (6, .slice (some ⟨gB, 0, none⟩) (last + 1) cB), (7, v7), (8, .int .i64 s.p), (9, .int .i64 s2.p)]) (fun s2 v7 w' => Pb ls (last + 1) s2.V s2.bl ∧ Dn ls s2.V s.p ∧ Dk ls s2.V u s2.p ∧ s2.V[s.p]? = some u ∧ s2.p ≤ ls.length ∧ Qm w w' gB cB (last + 1) s2.bl v7 (ints s2.V)) (fun s2 v7 => ls.length - s2.p) ⟨s.V, s.bl, 0⟩ _ (E.subc rfl (E.subc rfl (E.subc rfl (E.subc rfl (E.subc rfl (E.subc rfl E.subn)))))) ⟨hb, hd, Dk.first u, hu, Nat.zero_le _, hM⟩ ?_
      rintro s2 v7 w7 ⟨hb2, hd2, hk, hu, hk1, hM⟩
      obtain ⟨A7, c7, e7⟩ := Kd.R_slice hM.row
      rw [List.length_map] at e7
      subst e7
      refine E.CG.seq ?_
      refine E.CG.seq ?_
      refine E.CG.list ?_
      refine E.GL.run rfl rfl rfl (E.Runs.move rfl rfl) ?_
      refine E.GL.run rfl rfl rfl (E.Runs.move rfl rfl) ?_
      refine E.GL.run rfl rfl rfl (E.Runs.len rfl rfl hu89) ?_
      refine E.GL.cmp rfl rfl rfl (fun _ h => (E.Runs.lss rfl rfl rfl h)) (fun h32 => ?_) (fun h32 => ?_)
      · obtain ⟨x, hx⟩ : ∃ x, ls[s2.p]? = some x := ⟨_, List.getElem?_eq_getElem (by omega)⟩
        obtain ⟨ad, eA, X⟩ := ways_at hL hx
        obtain ⟨hx0, hx1, hx2, hx3⟩ := hW x (List.mem_of_getElem? hx)
        obtain ⟨t, ht⟩ : ∃ t : Nat, (t : Int) = x.f1 := ⟨x.f1.toNat, by omega⟩
        have htn : t < last + 1 := by omega
        obtain ⟨y, hbt⟩ : ∃ y, s2.bl[t]? = some y := ⟨_, List.getElem?_eq_getElem (by rw [hb2.lb]; exact htn)⟩
        obtain ⟨cB1, fB1, stB⟩ := hM.set hbt
        obtain ⟨g7, eA7, _, cR, _⟩ := rowI_at hM.row (ints_get hu)
        have hpV := (List.getElem?_eq_some_iff.1 hu).1
        refine E.GL.done ?_
        refine E.QG.code ?_
        refine E.CG.cond_t rfl ?_
        refine E.CG.skip ?_
        refine E.QG.code ?_
        refine E.CG.seq ?_
        refine E.CG.block ?_
        refine E.CG.seq ?_
        refine E.CG.quietF (by kernel_rfl) rfl (by kernel_rfl) (by kernel_rfl) ?_
        refine E.GQ.run rfl rfl rfl (E.Runs.move rfl rfl) ?_
        refine E.GQ.run rfl rfl rfl (E.Runs.move rfl rfl) ?_
        refine E.GQ.run rfl rfl rfl (E.Runs.indexAddrA rfl rfl rfl hu89 z95 o95 (show (s2.p : Int) < ls.length by omega) eA rfl) ?_
        refine E.GQ.run rfl rfl rfl (E.Runs.fieldAddr rfl rfl hu95 rfl (by assumption) rfl) ?_
        refine E.GQ.run rfl rfl rfl (E.Runs.load (v := .int .i64 x.f0) rfl rfl hu3 (by rw [← E.add_onA]; exact pw_cell_below hM.bel (X 0 _ rfl))) ?_
        refine E.GQ.run rfl rfl rfl (E.Runs.move rfl rfl) ?_
        refine E.GQ.run rfl rfl rfl (E.Runs.move rfl rfl) ?_
        refine E.GQ.run rfl rfl rfl (E.Runs.indexAddrA (i := s.p) rfl rfl rfl hu22 z3 o3 (by omega) eA7 (show _ = (⟨g7, s.p * 1, none⟩ : Addr) from by rw [Go.Addr.add_mid, Nat.zero_add])) ?_
        refine E.GQ.run rfl rfl rfl (E.Runs.load rfl rfl hu3 cR) ?_
        refine E.GQ.cmp rfl rfl rfl (fun _ h => (E.Runs.eql rfl rfl rfl h)) (fun h44 => ?_) (fun h44 => ?_)
        · refine E.GQ.run rfl rfl rfl (E.Runs.move rfl rfl) ?_
          refine E.GQ.run rfl rfl rfl (E.Runs.move rfl rfl) ?_
          refine E.GQ.run rfl rfl rfl (E.Runs.move rfl rfl) ?_
          refine E.GQ.run rfl rfl rfl (E.Runs.indexAddrA rfl rfl rfl hu89 z95 o95 (show (s2.p : Int) < ls.length by omega) eA rfl) ?_
          refine E.GQ.run rfl rfl rfl (E.Runs.fieldAddr rfl rfl hu95 rfl (by assumption) rfl) ?_
          refine E.GQ.run rfl rfl rfl (E.Runs.load (v := .int .i64 x.f2) rfl rfl hu3 (by rw [← E.add_onA]; exact pw_cell_below hM.bel (X 2 _ rfl))) ?_
          refine E.GQ.cmp rfl rfl rfl (fun _ h => (E.Runs.gtr rfl rfl rfl h)) (fun h51 => ?_) (fun h51 => ?_)
          · refine E.GQ.run rfl rfl rfl (E.Runs.pick_t rfl rfl rfl) ?_
            refine E.GQ.run rfl rfl rfl (E.Runs.move rfl rfl) ?_
            refine E.GQ.run rfl rfl rfl (E.Runs.move rfl rfl) ?_
            refine E.GQ.run rfl rfl rfl (E.Runs.move rfl rfl) ?_
            refine E.GQ.run rfl rfl rfl (E.Runs.indexAddrA rfl rfl rfl hu89 z95 o95 (show (s2.p : Int) < ls.length by omega) eA rfl) ?_
            refine E.GQ.run rfl rfl rfl (E.Runs.fieldAddr rfl rfl hu95 rfl (by assumption) rfl) ?_
            refine E.GQ.run rfl rfl rfl (E.Runs.load (v := .int .i64 x.f1) rfl rfl hu3 (by rw [← E.add_onA]; exact pw_cell_below hM.bel (X 1 _ rfl))) ?_
            refine E.GQ.cmpn rfl rfl rfl (fun _ h => (E.Runs.neq rfl rfl rfl h)) (fun h59 => ?_) (fun h59 => ?_)
            · refine E.GQ.run rfl rfl rfl (E.Runs.pick_t rfl rfl rfl) ?_
              refine E.GQ.run rfl rfl rfl (E.Runs.move rfl rfl) ?_
              refine E.GQ.run rfl rfl rfl (E.Runs.move rfl rfl) ?_
              refine E.GQ.run rfl rfl rfl (E.Runs.move rfl rfl) ?_
              refine E.GQ.run rfl rfl rfl (E.Runs.move rfl rfl) ?_
              refine E.GQ.run rfl rfl rfl (E.Runs.indexAddrA rfl rfl rfl hu89 z95 o95 (show (s2.p : Int) < ls.length by omega) eA rfl) ?_
              refine E.GQ.run rfl rfl rfl (E.Runs.fieldAddr rfl rfl hu95 rfl (by assumption) rfl) ?_
              refine E.GQ.run rfl rfl rfl (E.Runs.load (v := .int .i64 x.f1) rfl rfl hu3 (by rw [← E.add_onA]; exact pw_cell_below hM.bel (X 1 _ rfl))) ?_
              refine E.GQ.run rfl rfl rfl (E.Runs.indexAddrA (i := t) rfl rfl (by rw [ht]; rfl) hu22 z3 o3 (by omega) rfl (show _ = (⟨gB, t * 1, none⟩ : Addr) from by rw [Go.Addr.add_mid, Nat.zero_add])) ?_
              refine E.GQ.run rfl rfl rfl (E.Runs.load rfl rfl hu3 cB1) ?_
              refine E.GQ.cmp rfl rfl rfl (fun _ h => (E.Runs.eql rfl rfl rfl h)) (fun h70 => ?_) (fun h70 => ?_)
              · refine E.GQ.run rfl rfl rfl (E.Runs.pick_t rfl rfl rfl) ?_
                refine E.GQ.doneB fun v9 lD => ?_
                replace hM := hM.below lD
                have lD9 := lD
                clear lD
                refine E.QG.code ?_
                refine E.CG.cond_t rfl ?_
                refine E.CG.seq ?_
                obtain ⟨cB1, fB1, stB⟩ := hM.set hbt
                refine E.CG.list ?_
                refine E.GL.run rfl rfl rfl (E.Runs.move rfl rfl) ?_
                refine E.GL.run rfl rfl rfl (E.Runs.move rfl rfl) ?_
                refine E.GL.run rfl rfl rfl (E.Runs.move rfl rfl) ?_
                refine E.GL.run rfl rfl rfl (E.Runs.indexAddrA rfl rfl rfl hu89 z95 o95 (show (s2.p : Int) < ls.length by omega) eA rfl) ?_
                refine E.GL.run rfl rfl rfl (E.Runs.fieldAddr rfl rfl hu95 rfl (by assumption) rfl) ?_
                refine E.GL.run rfl rfl rfl (E.Runs.load (v := .int .i64 x.f1) rfl rfl hu3 (by rw [← E.add_onA]; exact pw_cell_below hM.bel (X 1 _ rfl))) ?_
                refine E.GL.run rfl rfl rfl (E.Runs.move rfl rfl) ?_
                refine E.GL.run rfl rfl rfl (E.Runs.add rfl rfl rfl (IntWalk.i64_in _ (by omega))) ?_
                refine E.GL.run rfl rfl rfl (E.Runs.indexAddrA (i := t) rfl rfl (by rw [ht]; rfl) hu22 z3 o3 (by omega) rfl (show _ = (⟨gB, t * 1, none⟩ : Addr) from by rw [Go.Addr.add_mid, Nat.zero_add])) ?_
                refine E.GL.sn rfl rfl (E.ST.storeN rfl z3 o3 rfl rfl cB1 fB1 ?_)
                obtain ⟨w10, hw10, hM10⟩ := stB ((s2.p : Int) + 1)
                rw [← hw10]
                clear hM stB cB1 fB1
                have hM := hM10
                clear hM10
                refine E.GL.done ?_
                refine E.QG.code ?_
                refine E.CG.list ?_
                refine E.GL.run rfl rfl rfl (E.Runs.move rfl rfl) ?_
                refine E.GL.run rfl rfl rfl (E.Runs.move rfl rfl) ?_
                refine E.GL.run rfl rfl rfl (E.Runs.move rfl rfl) ?_
                refine E.GL.run rfl rfl rfl (E.Runs.indexAddrA rfl rfl rfl hu89 z95 o95 (show (s2.p : Int) < ls.length by omega) eA rfl) ?_
                refine E.GL.run rfl rfl rfl (E.Runs.fieldAddr rfl rfl hu95 rfl (by assumption) rfl) ?_
                refine E.GL.run rfl rfl rfl (E.Runs.load (v := .int .i64 x.f1) rfl rfl hu3 (by rw [← E.add_onA]; exact pw_cell_below hM.bel (X 1 _ rfl))) ?_
                refine E.GL.st rfl rfl rfl (E.ST.lit rfl (E.epc rfl E.epn) (lit22 x.f1) ?_)
                refine E.GL.st rfl rfl rfl (E.ST.appendW kI w.heap.size (w0 := w) (s := .tmp 81) (x := .tmp 87) rfl hu22 info3 rfl (by decide) (by decide) (x.f1) rfl rfl rfl (fun _ _ => trivial) hM.row hM.bel hM.size (by have := hb2.few; simp only [ints, List.length_map]; omega) fun u88 w88 r88 k88 g88 o88 => ?_)
                have hM88 := hM.app r88 k88 g88 o88
                clear hM r88 k88 g88 o88
                have hM := hM88
                clear hM88
                rw [show x.f1 = (t : Int) from ht.symm, ints_snoc] at hM
                have hb3 := hb2.found hu hx h44 h51 ht.symm htn (by omega) (by rw [hbt, h70])
                refine E.GL.run rfl rfl rfl (E.Runs.assign rfl rfl) ?_
                refine E.GL.done ?_
                refine E.QG.block_normal ?_
                refine E.QG.code ?_
                refine E.CG.list ?_
                refine E.GL.run rfl rfl rfl (E.Runs.move rfl rfl) ?_
                refine E.GL.run rfl rfl rfl (E.Runs.add rfl rfl rfl (IntWalk.i64_in _ (by omega))) ?_
                refine E.GL.run rfl rfl rfl (E.Runs.assign rfl rfl) ?_
                refine E.GL.done ?_
                exact E.QG.round2 (d := .slice none 0 0) ⟨s2.V ++ [t], s2.bl.set t ((s2.p : Int) + 1), s2.p + 1⟩ _ (E.subc rfl (E.subc rfl (E.subc rfl (E.subc rfl (E.subc rfl (E.subc rfl E.subn)))))) (by first | exact ⟨hb3, hd2.more (by omega), hk.found hx ht.symm, by rw [List.getElem?_append_left (by omega)]; exact hu, by simp only; omega, hM⟩ | exact ⟨hb2, hd2, hk.not hx hN, hu, by simp only; omega, hM⟩ | fail) (by simp only; omega)
              · have hN : x.f0 = (u : Int) → 0 < x.f2 → x.f1.toNat ∈ s2.V := fun a b => hb2.why ⟨hx2, by omega⟩ (.inr (fun e => h70 (by rw [← ht, Int.toNat_natCast, hbt] at e; injection e)))
                refine E.GQ.run rfl rfl rfl (E.Runs.pick_t rfl rfl rfl) ?_
                refine E.GQ.doneB fun v9 lD => ?_
                replace hM := hM.below lD
                have lD9 := lD
                clear lD
                refine E.QG.code ?_
                refine E.CG.cond_f rfl ?_
                refine E.CG.skip ?_
                refine E.QG.block_normal ?_
                refine E.QG.code ?_
                refine E.CG.list ?_
                refine E.GL.run rfl rfl rfl (E.Runs.move rfl rfl) ?_
                refine E.GL.run rfl rfl rfl (E.Runs.add rfl rfl rfl (IntWalk.i64_in _ (by omega))) ?_
                refine E.GL.run rfl rfl rfl (E.Runs.assign rfl rfl) ?_
                refine E.GL.done ?_
                exact E.QG.round2 (d := .slice none 0 0) ⟨s2.V, s2.bl, s2.p + 1⟩ _ (E.subc rfl (E.subc rfl (E.subc rfl (E.subc rfl (E.subc rfl (E.subc rfl E.subn)))))) (by first | exact ⟨hb3, hd2.more (by omega), hk.found hx ht.symm, by rw [List.getElem?_append_left (by omega)]; exact hu, by simp only; omega, hM⟩ | exact ⟨hb2, hd2, hk.not hx hN, hu, by simp only; omega, hM⟩ | fail) (by simp only; omega)
            · have hN : x.f0 = (u : Int) → 0 < x.f2 → x.f1.toNat ∈ s2.V := fun a b => hb2.why ⟨hx2, by omega⟩ (.inl h59)
              refine E.GQ.run rfl rfl rfl (E.Runs.pick_t rfl rfl rfl) ?_
              refine E.GQ.run rfl rfl rfl (E.Runs.move rfl rfl) ?_
              refine E.GQ.skip rfl rfl rfl ?_
              refine E.GQ.skip rfl rfl rfl ?_
              refine E.GQ.skip rfl rfl rfl ?_
              refine E.GQ.skip rfl rfl rfl ?_
              refine E.GQ.skip rfl rfl rfl ?_
              refine E.GQ.skip rfl rfl rfl ?_
              refine E.GQ.skip rfl rfl rfl ?_
              refine E.GQ.skip rfl rfl rfl ?_
              refine E.GQ.skip rfl rfl rfl ?_
              refine E.GQ.run rfl rfl rfl (E.Runs.pick_f rfl rfl rfl) ?_
              refine E.GQ.doneB fun v9 lD => ?_
              replace hM := hM.below lD
              have lD9 := lD
              clear lD
              refine E.QG.code ?_
              refine E.CG.cond_f rfl ?_
              refine E.CG.skip ?_
              refine E.QG.block_normal ?_
              refine E.QG.code ?_
              refine E.CG.list ?_
              refine E.GL.run rfl rfl rfl (E.Runs.move rfl rfl) ?_
              refine E.GL.run rfl rfl rfl (E.Runs.add rfl rfl rfl (IntWalk.i64_in _ (by omega))) ?_
              refine E.GL.run rfl rfl rfl (E.Runs.assign rfl rfl) ?_
              refine E.GL.done ?_
              exact E.QG.round2 (d := .slice none 0 0) ⟨s2.V, s2.bl, s2.p + 1⟩ _ (E.subc rfl (E.subc rfl (E.subc rfl (E.subc rfl (E.subc rfl (E.subc rfl E.subn)))))) (by first | exact ⟨hb3, hd2.more (by omega), hk.found hx ht.symm, by rw [List.getElem?_append_left (by omega)]; exact hu, by simp only; omega, hM⟩ | exact ⟨hb2, hd2, hk.not hx hN, hu, by simp only; omega, hM⟩ | fail) (by simp only; omega)
          · have hN : x.f0 = (u : Int) → 0 < x.f2 → x.f1.toNat ∈ s2.V := fun a b => absurd b h51
            refine E.GQ.run rfl rfl rfl (E.Runs.pick_t rfl rfl rfl) ?_
            refine E.GQ.run rfl rfl rfl (E.Runs.move rfl rfl) ?_
            refine E.GQ.skip rfl rfl rfl ?_
            refine E.GQ.skip rfl rfl rfl ?_
            refine E.GQ.skip rfl rfl rfl ?_
            refine E.GQ.skip rfl rfl rfl ?_
            refine E.GQ.skip rfl rfl rfl ?_
            refine E.GQ.skip rfl rfl rfl ?_
            refine E.GQ.run rfl rfl rfl (E.Runs.pick_f rfl rfl rfl) ?_
            refine E.GQ.run rfl rfl rfl (E.Runs.move rfl rfl) ?_
            refine E.GQ.skip rfl rfl rfl ?_
            refine E.GQ.skip rfl rfl rfl ?_
            refine E.GQ.skip rfl rfl rfl ?_
            refine E.GQ.skip rfl rfl rfl ?_
            refine E.GQ.skip rfl rfl rfl ?_
            refine E.GQ.skip rfl rfl rfl ?_
            refine E.GQ.skip rfl rfl rfl ?_
            refine E.GQ.skip rfl rfl rfl ?_
            refine E.GQ.skip rfl rfl rfl ?_
            refine E.GQ.run rfl rfl rfl (E.Runs.pick_f rfl rfl rfl) ?_
            refine E.GQ.doneB fun v9 lD => ?_
            replace hM := hM.below lD
            have lD9 := lD
            clear lD
            refine E.QG.code ?_
            refine E.CG.cond_f rfl ?_
            refine E.CG.skip ?_
            refine E.QG.block_normal ?_
            refine E.QG.code ?_
            refine E.CG.list ?_
            refine E.GL.run rfl rfl rfl (E.Runs.move rfl rfl) ?_
            refine E.GL.run rfl rfl rfl (E.Runs.add rfl rfl rfl (IntWalk.i64_in _ (by omega))) ?_
            refine E.GL.run rfl rfl rfl (E.Runs.assign rfl rfl) ?_
            refine E.GL.done ?_
            exact E.QG.round2 (d := .slice none 0 0) ⟨s2.V, s2.bl, s2.p + 1⟩ _ (E.subc rfl (E.subc rfl (E.subc rfl (E.subc rfl (E.subc rfl (E.subc rfl E.subn)))))) (by first | exact ⟨hb3, hd2.more (by omega), hk.found hx ht.symm, by rw [List.getElem?_append_left (by omega)]; exact hu, by simp only; omega, hM⟩ | exact ⟨hb2, hd2, hk.not hx hN, hu, by simp only; omega, hM⟩ | fail) (by simp only; omega)
        · have hN : x.f0 = (u : Int) → 0 < x.f2 → x.f1.toNat ∈ s2.V := fun a b => absurd a h44
          refine E.GQ.run rfl rfl rfl (E.Runs.move rfl rfl) ?_
          refine E.GQ.skip rfl rfl rfl ?_
          refine E.GQ.skip rfl rfl rfl ?_
          refine E.GQ.skip rfl rfl rfl ?_
          refine E.GQ.skip rfl rfl rfl ?_
          refine E.GQ.skip rfl rfl rfl ?_
          refine E.GQ.skip rfl rfl rfl ?_
          refine E.GQ.run rfl rfl rfl (E.Runs.pick_f rfl rfl rfl) ?_
          refine E.GQ.run rfl rfl rfl (E.Runs.move rfl rfl) ?_
          refine E.GQ.skip rfl rfl rfl ?_
          refine E.GQ.skip rfl rfl rfl ?_
          refine E.GQ.skip rfl rfl rfl ?_
          refine E.GQ.skip rfl rfl rfl ?_
          refine E.GQ.skip rfl rfl rfl ?_
          refine E.GQ.skip rfl rfl rfl ?_
          refine E.GQ.run rfl rfl rfl (E.Runs.pick_f rfl rfl rfl) ?_
          refine E.GQ.run rfl rfl rfl (E.Runs.move rfl rfl) ?_
          refine E.GQ.skip rfl rfl rfl ?_
          refine E.GQ.skip rfl rfl rfl ?_
          refine E.GQ.skip rfl rfl rfl ?_
          refine E.GQ.skip rfl rfl rfl ?_
          refine E.GQ.skip rfl rfl rfl ?_
          refine E.GQ.skip rfl rfl rfl ?_
          refine E.GQ.skip rfl rfl rfl ?_
          refine E.GQ.skip rfl rfl rfl ?_
          refine E.GQ.skip rfl rfl rfl ?_
          refine E.GQ.run rfl rfl rfl (E.Runs.pick_f rfl rfl rfl) ?_
          refine E.GQ.doneB fun v9 lD => ?_
          replace hM := hM.below lD
          have lD9 := lD
          clear lD
          refine E.QG.code ?_
          refine E.CG.cond_f rfl ?_
          refine E.CG.skip ?_
          refine E.QG.block_normal ?_
          refine E.QG.code ?_
          refine E.CG.list ?_
          refine E.GL.run rfl rfl rfl (E.Runs.move rfl rfl) ?_
          refine E.GL.run rfl rfl rfl (E.Runs.add rfl rfl rfl (IntWalk.i64_in _ (by omega))) ?_
          refine E.GL.run rfl rfl rfl (E.Runs.assign rfl rfl) ?_
          refine E.GL.done ?_
          exact E.QG.round2 (d := .slice none 0 0) ⟨s2.V, s2.bl, s2.p + 1⟩ _ (E.subc rfl (E.subc rfl (E.subc rfl (E.subc rfl (E.subc rfl (E.subc rfl E.subn)))))) (by first | exact ⟨hb3, hd2.more (by omega), hk.found hx ht.symm, by rw [List.getElem?_append_left (by omega)]; exact hu, by simp only; omega, hM⟩ | exact ⟨hb2, hd2, hk.not hx hN, hu, by simp only; omega, hM⟩ | fail) (by simp only; omega)
      · refine E.GL.done ?_
        refine E.QG.code ?_
        refine E.CG.cond_f rfl ?_
        refine E.CG.exit ?_
        refine E.QG.pass_exit ?_
        refine E.QG.pass_exit ?_
        refine E.QG.block_here ?_
        refine E.QG.block_normal ?_
        refine E.QG.code ?_
        refine E.CG.list ?_
        refine E.GL.run rfl rfl rfl (E.Runs.move rfl rfl) ?_
        refine E.GL.run rfl rfl rfl (E.Runs.add rfl rfl rfl (IntWalk.i64_in _ (by omega))) ?_
        refine E.GL.run rfl rfl rfl (E.Runs.assign rfl rfl) ?_
        refine E.GL.done ?_
        exact E.QG.round2 (d := .slice none 0 0) ⟨s2.V, s2.bl, s.p + 1⟩ _ (E.subc rfl (E.subc rfl (E.subc rfl (E.subc rfl (E.subc rfl E.subn))))) ⟨hb2, hd2.next hu hk (by omega), by have := (List.getElem?_eq_some_iff.1 hu).1; simp only; omega, hM⟩ (by simp only; omega)
    · have hC : yl = 0 → ∀ P, PathOk ls last P false := fun e => absurd e h25
      refine E.GL.run rfl rfl rfl (E.Runs.pick_t rfl rfl rfl) ?_
      refine E.GL.done ?_
      refine E.QG.code ?_
      refine E.CG.cond_f rfl ?_
      refine E.CG.exit ?_
      refine E.QG.pass_exit ?_
      refine E.QG.pass_exit ?_
      refine E.QG.block_here ?_
      refine E.QG.code ?_
      refine E.CG.seq ?_
      refine E.CG.list ?_
      refine E.GL.run rfl rfl rfl (E.Runs.assign rfl rfl) ?_
      refine E.GL.done ?_
      refine E.QG.code ?_
      refine E.CG.seq ?_
      refine E.CG.seq ?_
      refine E.CG.list ?_
      refine E.GL.run rfl rfl rfl (E.Runs.move rfl rfl) ?_
      refine E.GL.run rfl rfl rfl (E.Runs.assign rfl rfl) ?_
      refine E.GL.done ?_
      refine E.QG.code ?_
      refine E.CG.block ?_
      refine E.CG.loop2 (fun (s3 : Pw) (v10 : Value) => [(0, .slice A ls.length c), (1, .int .i64 last), (6, .slice (some ⟨gB, 0, none⟩) (last + 1) cB), (10, v10), (11, .int .i64 s3.at_)]) (fun s3 v10 w' => s3.at_ < last + 1 ∧ (yl = 0 → s3.at_ = last) ∧ (yl ≠ 0 → s3.at_ ∈ s.V ∧ Wp ls s.V.idxOf last s3.at_ s3.P) ∧ s3.P.length + s.V.idxOf s3.at_ ≤ 20000 ∧ Qm w w' gB cB (last + 1) s.bl v10 s3.P) (fun s3 v10 => s.V.idxOf s3.at_) ⟨last, []⟩ (.slice none 0 0) (E.subc rfl (E.subc rfl (E.subc rfl (E.subc rfl (E.subc rfl E.subn))))) ⟨by simp only; omega, fun _ => rfl, fun e => ⟨((hb.is last (by omega)).mp (fun z => e (by rw [hbl] at z; injection z))).1, Wp.first _ _ _⟩, by have := List.idxOf_le_length (a := last) (l := s.V); simp only [List.length_nil]; omega, ⟨hM.by_, Kd.R_nil _ _ _ _ _, fun e => (by cases e), hM.bel, hM.size⟩⟩ ?_
      rintro s3 v10 w14 ⟨hat1, hw0, hw1, hlP, hM⟩
      refine E.CG.seq ?_
      refine E.CG.seq ?_
      obtain ⟨ya, hba⟩ : ∃ y, s.bl[s3.at_]? = some y := ⟨_, List.getElem?_eq_getElem (by rw [hb.lb]; omega)⟩
      have hca := (hM.set hba).1
      have hyn := hb.nn _ (List.mem_of_getElem? hba)
      refine E.CG.list ?_
      refine E.GL.run rfl rfl rfl (E.Runs.move rfl rfl) ?_
      refine E.GL.cmpn rfl rfl rfl (fun _ h => (E.Runs.neq rfl rfl rfl h)) (fun h91 => ?_) (fun h91 => ?_)
      · refine E.GL.run rfl rfl rfl (E.Runs.move rfl rfl) ?_
        refine E.GL.run rfl rfl rfl (E.Runs.move rfl rfl) ?_
        refine E.GL.run rfl rfl rfl (E.Runs.move rfl rfl) ?_
        refine E.GL.run rfl rfl rfl (E.Runs.indexAddrA (i := s3.at_) rfl rfl rfl hu22 z3 o3 (by omega) rfl (show _ = (⟨gB, s3.at_ * 1, none⟩ : Addr) from by rw [Go.Addr.add_mid, Nat.zero_add])) ?_
        refine E.GL.run rfl rfl rfl (E.Runs.load rfl rfl hu3 hca) ?_
        refine E.GL.cmp rfl rfl rfl (fun _ h => (E.Runs.gtr rfl rfl rfl h)) (fun h97 => ?_) (fun h97 => ?_)
        · have hyl : yl ≠ 0 := fun e => by have := hw0 e; rw [this, hbl] at hba; injection hba with hba; omega
          obtain ⟨hat, hwp⟩ := hw1 hyl
          obtain ⟨k, x, hx, hbk, hx1, hx2, hxV, hxd⟩ := hb.at_ hat (by omega)
          rw [hba] at hbk
          injection hbk with hbk
          have hkl := (List.getElem?_eq_some_iff.1 hx).1
          have hk1 : ya - 1 = (k : Int) := by omega
          have hk2 : IntKind.i64.wrap (ya - 1) = (k : Int) := by rw [hk1]; exact IntWalk.i64_in _ (by omega)
          obtain ⟨ad, eA, X⟩ := ways_at hL hx
          obtain ⟨hx3, hx4, _, _⟩ := hW x (List.mem_of_getElem? hx)
          refine E.GL.run rfl rfl rfl (E.Runs.pick_t rfl rfl rfl) ?_
          refine E.GL.done ?_
          refine E.QG.code ?_
          refine E.CG.cond_t rfl ?_
          refine E.CG.skip ?_
          refine E.QG.code ?_
          refine E.CG.seq ?_
          refine E.CG.block ?_
          refine E.CG.list ?_
          refine E.GL.run rfl rfl rfl (E.Runs.move rfl rfl) ?_
          refine E.GL.run rfl rfl rfl (E.Runs.move rfl rfl) ?_
          refine E.GL.run rfl rfl rfl (E.Runs.move rfl rfl) ?_
          refine E.GL.run rfl rfl rfl (E.Runs.indexAddrA (i := s3.at_) rfl rfl rfl hu22 z3 o3 (by omega) rfl (show _ = (⟨gB, s3.at_ * 1, none⟩ : Addr) from by rw [Go.Addr.add_mid, Nat.zero_add])) ?_
          refine E.GL.run rfl rfl rfl (E.Runs.load rfl rfl hu3 hca) ?_
          refine E.GL.run rfl rfl rfl (E.Runs.sub rfl rfl rfl hk2) ?_
          refine E.GL.st rfl rfl rfl (E.ST.lit rfl (E.epc rfl E.epn) (lit22 (k : Int)) ?_)
          refine E.GL.st rfl rfl rfl (E.ST.appendW kI w.heap.size (w0 := w) (s := .tmp 108) (x := .tmp 114) rfl hu22 info3 rfl (by decide) (by decide) ((k : Int)) rfl rfl rfl (fun _ _ => trivial) hM.row hM.bel hM.size (by have := hlP; skip; omega) fun u115 w115 r115 k115 g115 o115 => ?_)
          have hM115 := hM.app r115 k115 g115 o115
          clear hM r115 k115 g115 o115
          have hM := hM115
          clear hM115
          refine E.GL.run rfl rfl rfl (E.Runs.assign rfl rfl) ?_
          refine E.GL.done ?_
          refine E.QG.block_normal ?_
          refine E.QG.code ?_
          refine E.CG.list ?_
          refine E.GL.run rfl rfl rfl (E.Runs.move rfl rfl) ?_
          refine E.GL.run rfl rfl rfl (E.Runs.move rfl rfl) ?_
          refine E.GL.run rfl rfl rfl (E.Runs.move rfl rfl) ?_
          refine E.GL.run rfl rfl rfl (E.Runs.indexAddrA (i := s3.at_) rfl rfl rfl hu22 z3 o3 (by omega) rfl (show _ = (⟨gB, s3.at_ * 1, none⟩ : Addr) from by rw [Go.Addr.add_mid, Nat.zero_add])) ?_
          refine E.GL.run rfl rfl rfl (E.Runs.load rfl rfl hu3 (hM.set hba).1) ?_
          refine E.GL.run rfl rfl rfl (E.Runs.sub rfl rfl rfl hk2) ?_
          refine E.GL.run rfl rfl rfl (E.Runs.indexAddrA (i := k) rfl rfl (by first | rfl | (rw [hk1]; rfl)) hu89 z95 o95 (by omega) eA rfl) ?_
          refine E.GL.run rfl rfl rfl (E.Runs.fieldAddr rfl rfl hu95 rfl (by assumption) rfl) ?_
          refine E.GL.run rfl rfl rfl (E.Runs.load (v := .int .i64 x.f0) rfl rfl hu3 (by rw [← E.add_onA]; exact pw_cell_below hM.bel (X 0 _ rfl))) ?_
          refine E.GL.run rfl rfl rfl (E.Runs.assign rfl rfl) ?_
          refine E.GL.done ?_
          exact E.QG.round2 (d := .slice none 0 0) ⟨x.f0.toNat, s3.P ++ [(k : Int)]⟩ _ (E.subc rfl (E.subc rfl (E.subc rfl (E.subc rfl (E.subc (by rw [Int.toNat_of_nonneg hx3]; rfl) E.subn))))) ⟨by simp only; omega, fun e => absurd e hyl, fun _ => ⟨hxV, hwp.step (by omega) hx hx1 hx2 hxd⟩, by simp only [List.length_append, List.length_singleton]; omega, hM⟩ (by simp only; omega)
        · have hT : yl ≠ 0 → ∃ d, Wl ls d last s3.P := fun e => absurd (show s.bl[s3.at_]? = some 0 by rw [hba]; congr 1; omega) ((hb.is _ (by omega)).mpr ⟨(hw1 e).1, by omega⟩)
          refine E.GL.run rfl rfl rfl (E.Runs.pick_t rfl rfl rfl) ?_
          refine E.GL.done ?_
          refine E.QG.code ?_
          refine E.CG.cond_f rfl ?_
          refine E.CG.exit ?_
          refine E.QG.pass_exit ?_
          refine E.QG.pass_exit ?_
          refine E.QG.block_here ?_
          refine E.QG.code ?_
          refine E.CG.seq ?_
          have hcl2 := (hM.set hbl).1
          refine E.CG.quietF (by kernel_rfl) rfl (by kernel_rfl) (by kernel_rfl) ?_
          refine E.GQ.run rfl rfl rfl (E.Runs.move rfl rfl) ?_
          refine E.GQ.run rfl rfl rfl (E.Runs.move rfl rfl) ?_
          refine E.GQ.run rfl rfl rfl (E.Runs.move rfl rfl) ?_
          refine E.GQ.run rfl rfl rfl (E.Runs.indexAddrA (i := last) rfl rfl rfl hu22 z3 o3 (by omega) rfl (show _ = (⟨gB, last * 1, none⟩ : Addr) from by rw [Go.Addr.add_mid, Nat.zero_add])) ?_
          refine E.GQ.run rfl rfl rfl (E.Runs.load rfl rfl hu3 hcl2) ?_
          refine E.GQ.cmp rfl rfl rfl (fun _ h => (E.Runs.gtr rfl rfl rfl h)) (fun h121 => ?_) (fun h121 => ?_)
          · refine E.GQ.run rfl rfl rfl (E.Runs.assign rfl rfl) ?_
            refine E.GQ.run rfl rfl rfl (E.Runs.assign rfl rfl) ?_
            refine E.GQ.doneB fun v17 lD => ?_
            replace hM := hM.below lD
            have lD17 := lD
            clear lD
            refine E.QG.code ?_
            refine E.CG.ret ?_
            exact E.QG.result2 rfl rfl rfl ⟨_, s3.P, true, rfl, hM.row, ⟨fun _ => hT (by omega), fun q => by cases q⟩, hM.bel⟩
          · refine E.GQ.run rfl rfl rfl (E.Runs.assign rfl rfl) ?_
            refine E.GQ.run rfl rfl rfl (E.Runs.assign rfl rfl) ?_
            refine E.GQ.doneB fun v17 lD => ?_
            replace hM := hM.below lD
            have lD17 := lD
            clear lD
            refine E.QG.code ?_
            refine E.CG.ret ?_
            exact E.QG.result2 rfl rfl rfl ⟨_, s3.P, false, rfl, hM.row, hC (by have := hb.nn _ (List.mem_of_getElem? hbl); omega) _, hM.bel⟩
      · have hT : yl ≠ 0 → ∃ d, Wl ls d last s3.P := fun e => ⟨_, by have := (hw1 e).2 [] (by show s3.at_ = 0; omega); rw [List.append_nil] at this; exact this⟩
        refine E.GL.run rfl rfl rfl (E.Runs.move rfl rfl) ?_
        refine E.GL.skip rfl rfl rfl ?_
        refine E.GL.skip rfl rfl rfl ?_
        refine E.GL.skip rfl rfl rfl ?_
        refine E.GL.skip rfl rfl rfl ?_
        refine E.GL.skip rfl rfl rfl ?_
        refine E.GL.run rfl rfl rfl (E.Runs.pick_f rfl rfl rfl) ?_
        refine E.GL.done ?_
        refine E.QG.code ?_
        refine E.CG.cond_f rfl ?_
        refine E.CG.exit ?_
        refine E.QG.pass_exit ?_
        refine E.QG.pass_exit ?_
        refine E.QG.block_here ?_
        refine E.QG.code ?_
        refine E.CG.seq ?_
        have hcl2 := (hM.set hbl).1
        refine E.CG.quietF (by kernel_rfl) rfl (by kernel_rfl) (by kernel_rfl) ?_
        refine E.GQ.run rfl rfl rfl (E.Runs.move rfl rfl) ?_
        refine E.GQ.run rfl rfl rfl (E.Runs.move rfl rfl) ?_
        refine E.GQ.run rfl rfl rfl (E.Runs.move rfl rfl) ?_
        refine E.GQ.run rfl rfl rfl (E.Runs.indexAddrA (i := last) rfl rfl rfl hu22 z3 o3 (by omega) rfl (show _ = (⟨gB, last * 1, none⟩ : Addr) from by rw [Go.Addr.add_mid, Nat.zero_add])) ?_
        refine E.GQ.run rfl rfl rfl (E.Runs.load rfl rfl hu3 hcl2) ?_
        refine E.GQ.cmp rfl rfl rfl (fun _ h => (E.Runs.gtr rfl rfl rfl h)) (fun h121 => ?_) (fun h121 => ?_)
        · refine E.GQ.run rfl rfl rfl (E.Runs.assign rfl rfl) ?_
          refine E.GQ.run rfl rfl rfl (E.Runs.assign rfl rfl) ?_
          refine E.GQ.doneB fun v17 lD => ?_
          replace hM := hM.below lD
          have lD17 := lD
          clear lD
          refine E.QG.code ?_
          refine E.CG.ret ?_
          exact E.QG.result2 rfl rfl rfl ⟨_, s3.P, true, rfl, hM.row, ⟨fun _ => hT (by omega), fun q => by cases q⟩, hM.bel⟩
        · refine E.GQ.run rfl rfl rfl (E.Runs.assign rfl rfl) ?_
          refine E.GQ.run rfl rfl rfl (E.Runs.assign rfl rfl) ?_
          refine E.GQ.doneB fun v17 lD => ?_
          replace hM := hM.below lD
          have lD17 := lD
          clear lD
          refine E.QG.code ?_
          refine E.CG.ret ?_
          exact E.QG.result2 rfl rfl rfl ⟨_, s3.P, false, rfl, hM.row, hC (by have := hb.nn _ (List.mem_of_getElem? hbl); omega) _, hM.bel⟩
  · have hC : yl = 0 → ∀ P, PathOk ls last P false := fun e P => by subst e; exact hb.closed hW (fun j v hj => hd j v (by omega)) (by omega) hbl (by omega) P
    refine E.GL.run rfl rfl rfl (E.Runs.move rfl rfl) ?_
    refine E.GL.skip rfl rfl rfl ?_
    refine E.GL.skip rfl rfl rfl ?_
    refine E.GL.skip rfl rfl rfl ?_
    refine E.GL.skip rfl rfl rfl ?_
    refine E.GL.skip rfl rfl rfl ?_
    refine E.GL.run rfl rfl rfl (E.Runs.pick_f rfl rfl rfl) ?_
    refine E.GL.done ?_
    refine E.QG.code ?_
    refine E.CG.cond_f rfl ?_
    refine E.CG.exit ?_
    refine E.QG.pass_exit ?_
    refine E.QG.pass_exit ?_
    refine E.QG.block_here ?_
    refine E.QG.code ?_
    refine E.CG.seq ?_
    refine E.CG.list ?_
    refine E.GL.run rfl rfl rfl (E.Runs.assign rfl rfl) ?_
    refine E.GL.done ?_
    refine E.QG.code ?_
    refine E.CG.seq ?_
    refine E.CG.seq ?_
    refine E.CG.list ?_
    refine E.GL.run rfl rfl rfl (E.Runs.move rfl rfl) ?_
    refine E.GL.run rfl rfl rfl (E.Runs.assign rfl rfl) ?_
    refine E.GL.done ?_
    refine E.QG.code ?_
    refine E.CG.block ?_
    refine E.CG.loop2 (fun (s3 : Pw) (v10 : Value) => [(0, .slice A ls.length c), (1, .int .i64 last), (6, .slice (some ⟨gB, 0, none⟩) (last + 1) cB), (10, v10), (11, .int .i64 s3.at_)]) (fun s3 v10 w' => s3.at_ < last + 1 ∧ (yl = 0 → s3.at_ = last) ∧ (yl ≠ 0 → s3.at_ ∈ s.V ∧ Wp ls s.V.idxOf last s3.at_ s3.P) ∧ s3.P.length + s.V.idxOf s3.at_ ≤ 20000 ∧ Qm w w' gB cB (last + 1) s.bl v10 s3.P) (fun s3 v10 => s.V.idxOf s3.at_) ⟨last, []⟩ (.slice none 0 0) (E.subc rfl (E.subc rfl (E.subc rfl (E.subc rfl (E.subc rfl E.subn))))) ⟨by simp only; omega, fun _ => rfl, fun e => ⟨((hb.is last (by omega)).mp (fun z => e (by rw [hbl] at z; injection z))).1, Wp.first _ _ _⟩, by have := List.idxOf_le_length (a := last) (l := s.V); simp only [List.length_nil]; omega, ⟨hM.by_, Kd.R_nil _ _ _ _ _, fun e => (by cases e), hM.bel, hM.size⟩⟩ ?_
    rintro s3 v10 w14 ⟨hat1, hw0, hw1, hlP, hM⟩
    refine E.CG.seq ?_
    refine E.CG.seq ?_
    obtain ⟨ya, hba⟩ : ∃ y, s.bl[s3.at_]? = some y := ⟨_, List.getElem?_eq_getElem (by rw [hb.lb]; omega)⟩
    have hca := (hM.set hba).1
    have hyn := hb.nn _ (List.mem_of_getElem? hba)
    refine E.CG.list ?_
    refine E.GL.run rfl rfl rfl (E.Runs.move rfl rfl) ?_
    refine E.GL.cmpn rfl rfl rfl (fun _ h => (E.Runs.neq rfl rfl rfl h)) (fun h91 => ?_) (fun h91 => ?_)
    · refine E.GL.run rfl rfl rfl (E.Runs.move rfl rfl) ?_
      refine E.GL.run rfl rfl rfl (E.Runs.move rfl rfl) ?_
      refine E.GL.run rfl rfl rfl (E.Runs.move rfl rfl) ?_
      refine E.GL.run rfl rfl rfl (E.Runs.indexAddrA (i := s3.at_) rfl rfl rfl hu22 z3 o3 (by omega) rfl (show _ = (⟨gB, s3.at_ * 1, none⟩ : Addr) from by rw [Go.Addr.add_mid, Nat.zero_add])) ?_
      refine E.GL.run rfl rfl rfl (E.Runs.load rfl rfl hu3 hca) ?_
      refine E.GL.cmp rfl rfl rfl (fun _ h => (E.Runs.gtr rfl rfl rfl h)) (fun h97 => ?_) (fun h97 => ?_)
      · have hyl : yl ≠ 0 := fun e => by have := hw0 e; rw [this, hbl] at hba; injection hba with hba; omega
        obtain ⟨hat, hwp⟩ := hw1 hyl
        obtain ⟨k, x, hx, hbk, hx1, hx2, hxV, hxd⟩ := hb.at_ hat (by omega)
        rw [hba] at hbk
        injection hbk with hbk
        have hkl := (List.getElem?_eq_some_iff.1 hx).1
        have hk1 : ya - 1 = (k : Int) := by omega
        have hk2 : IntKind.i64.wrap (ya - 1) = (k : Int) := by rw [hk1]; exact IntWalk.i64_in _ (by omega)
        obtain ⟨ad, eA, X⟩ := ways_at hL hx
        obtain ⟨hx3, hx4, _, _⟩ := hW x (List.mem_of_getElem? hx)
        refine E.GL.run rfl rfl rfl (E.Runs.pick_t rfl rfl rfl) ?_
        refine E.GL.done ?_
        refine E.QG.code ?_
        refine E.CG.cond_t rfl ?_
        refine E.CG.skip ?_
        refine E.QG.code ?_
        refine E.CG.seq ?_
        refine E.CG.block ?_
        refine E.CG.list ?_
        refine E.GL.run rfl rfl rfl (E.Runs.move rfl rfl) ?_
        refine E.GL.run rfl rfl rfl (E.Runs.move rfl rfl) ?_
        refine E.GL.run rfl rfl rfl (E.Runs.move rfl rfl) ?_
        refine E.GL.run rfl rfl rfl (E.Runs.indexAddrA (i := s3.at_) rfl rfl rfl hu22 z3 o3 (by omega) rfl (show _ = (⟨gB, s3.at_ * 1, none⟩ : Addr) from by rw [Go.Addr.add_mid, Nat.zero_add])) ?_
        refine E.GL.run rfl rfl rfl (E.Runs.load rfl rfl hu3 hca) ?_
        refine E.GL.run rfl rfl rfl (E.Runs.sub rfl rfl rfl hk2) ?_
        refine E.GL.st rfl rfl rfl (E.ST.lit rfl (E.epc rfl E.epn) (lit22 (k : Int)) ?_)
        refine E.GL.st rfl rfl rfl (E.ST.appendW kI w.heap.size (w0 := w) (s := .tmp 108) (x := .tmp 114) rfl hu22 info3 rfl (by decide) (by decide) ((k : Int)) rfl rfl rfl (fun _ _ => trivial) hM.row hM.bel hM.size (by have := hlP; skip; omega) fun u115 w115 r115 k115 g115 o115 => ?_)
        have hM115 := hM.app r115 k115 g115 o115
        clear hM r115 k115 g115 o115
        have hM := hM115
        clear hM115
        refine E.GL.run rfl rfl rfl (E.Runs.assign rfl rfl) ?_
        refine E.GL.done ?_
        refine E.QG.block_normal ?_
        refine E.QG.code ?_
        refine E.CG.list ?_
        refine E.GL.run rfl rfl rfl (E.Runs.move rfl rfl) ?_
        refine E.GL.run rfl rfl rfl (E.Runs.move rfl rfl) ?_
        refine E.GL.run rfl rfl rfl (E.Runs.move rfl rfl) ?_
        refine E.GL.run rfl rfl rfl (E.Runs.indexAddrA (i := s3.at_) rfl rfl rfl hu22 z3 o3 (by omega) rfl (show _ = (⟨gB, s3.at_ * 1, none⟩ : Addr) from by rw [Go.Addr.add_mid, Nat.zero_add])) ?_
        refine E.GL.run rfl rfl rfl (E.Runs.load rfl rfl hu3 (hM.set hba).1) ?_
        refine E.GL.run rfl rfl rfl (E.Runs.sub rfl rfl rfl hk2) ?_
        refine E.GL.run rfl rfl rfl (E.Runs.indexAddrA (i := k) rfl rfl (by first | rfl | (rw [hk1]; rfl)) hu89 z95 o95 (by omega) eA rfl) ?_
        refine E.GL.run rfl rfl rfl (E.Runs.fieldAddr rfl rfl hu95 rfl (by assumption) rfl) ?_
        refine E.GL.run rfl rfl rfl (E.Runs.load (v := .int .i64 x.f0) rfl rfl hu3 (by rw [← E.add_onA]; exact pw_cell_below hM.bel (X 0 _ rfl))) ?_
        refine E.GL.run rfl rfl rfl (E.Runs.assign rfl rfl) ?_
        refine E.GL.done ?_
        exact E.QG.round2 (d := .slice none 0 0) ⟨x.f0.toNat, s3.P ++ [(k : Int)]⟩ _ (E.subc rfl (E.subc rfl (E.subc rfl (E.subc rfl (E.subc (by rw [Int.toNat_of_nonneg hx3]; rfl) E.subn))))) ⟨by simp only; omega, fun e => absurd e hyl, fun _ => ⟨hxV, hwp.step (by omega) hx hx1 hx2 hxd⟩, by simp only [List.length_append, List.length_singleton]; omega, hM⟩ (by simp only; omega)
      · have hT : yl ≠ 0 → ∃ d, Wl ls d last s3.P := fun e => absurd (show s.bl[s3.at_]? = some 0 by rw [hba]; congr 1; omega) ((hb.is _ (by omega)).mpr ⟨(hw1 e).1, by omega⟩)
        refine E.GL.run rfl rfl rfl (E.Runs.pick_t rfl rfl rfl) ?_
        refine E.GL.done ?_
        refine E.QG.code ?_
        refine E.CG.cond_f rfl ?_
        refine E.CG.exit ?_
        refine E.QG.pass_exit ?_
        refine E.QG.pass_exit ?_
        refine E.QG.block_here ?_
        refine E.QG.code ?_
        refine E.CG.seq ?_
        have hcl2 := (hM.set hbl).1
        refine E.CG.quietF (by kernel_rfl) rfl (by kernel_rfl) (by kernel_rfl) ?_
        refine E.GQ.run rfl rfl rfl (E.Runs.move rfl rfl) ?_
        refine E.GQ.run rfl rfl rfl (E.Runs.move rfl rfl) ?_
        refine E.GQ.run rfl rfl rfl (E.Runs.move rfl rfl) ?_
        refine E.GQ.run rfl rfl rfl (E.Runs.indexAddrA (i := last) rfl rfl rfl hu22 z3 o3 (by omega) rfl (show _ = (⟨gB, last * 1, none⟩ : Addr) from by rw [Go.Addr.add_mid, Nat.zero_add])) ?_
        refine E.GQ.run rfl rfl rfl (E.Runs.load rfl rfl hu3 hcl2) ?_
        refine E.GQ.cmp rfl rfl rfl (fun _ h => (E.Runs.gtr rfl rfl rfl h)) (fun h121 => ?_) (fun h121 => ?_)
        · refine E.GQ.run rfl rfl rfl (E.Runs.assign rfl rfl) ?_
          refine E.GQ.run rfl rfl rfl (E.Runs.assign rfl rfl) ?_
          refine E.GQ.doneB fun v17 lD => ?_
          replace hM := hM.below lD
          have lD17 := lD
          clear lD
          refine E.QG.code ?_
          refine E.CG.ret ?_
          exact E.QG.result2 rfl rfl rfl ⟨_, s3.P, true, rfl, hM.row, ⟨fun _ => hT (by omega), fun q => by cases q⟩, hM.bel⟩
        · refine E.GQ.run rfl rfl rfl (E.Runs.assign rfl rfl) ?_
          refine E.GQ.run rfl rfl rfl (E.Runs.assign rfl rfl) ?_
          refine E.GQ.doneB fun v17 lD => ?_
          replace hM := hM.below lD
          have lD17 := lD
          clear lD
          refine E.QG.code ?_
          refine E.CG.ret ?_
          exact E.QG.result2 rfl rfl rfl ⟨_, s3.P, false, rfl, hM.row, hC (by have := hb.nn _ (List.mem_of_getElem? hbl); omega) _, hM.bel⟩
    · have hT : yl ≠ 0 → ∃ d, Wl ls d last s3.P := fun e => ⟨_, by have := (hw1 e).2 [] (by show s3.at_ = 0; omega); rw [List.append_nil] at this; exact this⟩
      refine E.GL.run rfl rfl rfl (E.Runs.move rfl rfl) ?_
      refine E.GL.skip rfl rfl rfl ?_
      refine E.GL.skip rfl rfl rfl ?_
      refine E.GL.skip rfl rfl rfl ?_
      refine E.GL.skip rfl rfl rfl ?_
      refine E.GL.skip rfl rfl rfl ?_
      refine E.GL.run rfl rfl rfl (E.Runs.pick_f rfl rfl rfl) ?_
      refine E.GL.done ?_
      refine E.QG.code ?_
      refine E.CG.cond_f rfl ?_
      refine E.CG.exit ?_
      refine E.QG.pass_exit ?_
      refine E.QG.pass_exit ?_
      refine E.QG.block_here ?_
      refine E.QG.code ?_
      refine E.CG.seq ?_
      have hcl2 := (hM.set hbl).1
      refine E.CG.quietF (by kernel_rfl) rfl (by kernel_rfl) (by kernel_rfl) ?_
      refine E.GQ.run rfl rfl rfl (E.Runs.move rfl rfl) ?_
      refine E.GQ.run rfl rfl rfl (E.Runs.move rfl rfl) ?_
      refine E.GQ.run rfl rfl rfl (E.Runs.move rfl rfl) ?_
      refine E.GQ.run rfl rfl rfl (E.Runs.indexAddrA (i := last) rfl rfl rfl hu22 z3 o3 (by omega) rfl (show _ = (⟨gB, last * 1, none⟩ : Addr) from by rw [Go.Addr.add_mid, Nat.zero_add])) ?_
      refine E.GQ.run rfl rfl rfl (E.Runs.load rfl rfl hu3 hcl2) ?_
      refine E.GQ.cmp rfl rfl rfl (fun _ h => (E.Runs.gtr rfl rfl rfl h)) (fun h121 => ?_) (fun h121 => ?_)
      · refine E.GQ.run rfl rfl rfl (E.Runs.assign rfl rfl) ?_
        refine E.GQ.run rfl rfl rfl (E.Runs.assign rfl rfl) ?_
        refine E.GQ.doneB fun v17 lD => ?_
        replace hM := hM.below lD
        have lD17 := lD
        clear lD
        refine E.QG.code ?_
        refine E.CG.ret ?_
        exact E.QG.result2 rfl rfl rfl ⟨_, s3.P, true, rfl, hM.row, ⟨fun _ => hT (by omega), fun q => by cases q⟩, hM.bel⟩
      · refine E.GQ.run rfl rfl rfl (E.Runs.assign rfl rfl) ?_
        refine E.GQ.run rfl rfl rfl (E.Runs.assign rfl rfl) ?_
        refine E.GQ.doneB fun v17 lD => ?_
        replace hM := hM.below lD
        have lD17 := lD
        clear lD
        refine E.QG.code ?_
        refine E.CG.ret ?_
        exact E.QG.result2 rfl rfl rfl ⟨_, s3.P, false, rfl, hM.row, hC (by have := hb.nn _ (List.mem_of_getElem? hbl); omega) _, hM.bel⟩

end Go.Proofs.Ytmnjlnkfihklgaa.T
namespace Go.Proofs.Ytmnjlnkfihklgaa.T
open Go.RowKit Go.Proofs.YtmnjlnkfihklgaaW.PrintWords Go.Proofs.YtmnjlnkfihklgaaW.PrintMore
open Go.Proofs.Ytmnjlnkfihklgaa.P
set_option linter.unusedVariables false
/-- The ways, with what flows. -/
def wayF (f : Nat → Int) : List Ed → Nat → List S95
  | [], _ => []
  | e :: r, k => ⟨e.fr, e.td, e.cap - f k⟩ :: ⟨e.td, e.fr, f k⟩ :: wayF f r (k + 1)
def hI (h : Nat × Bool) : Nat := 2 * h.1 + if h.2 then 0 else 1
theorem wayF_len (f : Nat → Int) : ∀ (E : List Ed) (k : Nat), (wayF f E k).length = 2 * E.length
  | [], _ => rfl
  | e :: r, k => by simp only [wayF, List.length_cons, wayF_len f r (k + 1)]; omega
theorem wayF_zero : ∀ (E : List Ed) (k : Nat), wayF (fun _ => 0) E k = way0 E
  | [], _ => rfl
  | e :: r, k => by
    simp only [wayF, wayF_zero r (k + 1)]
    simp [way0, way2]
theorem wayF_at (f : Nat → Int) : ∀ {E : List Ed} {k0 i : Nat} {e : Ed}, E[i]? = some e → (wayF f E k0)[2 * i]? = some ⟨e.fr, e.td, e.cap - f (k0 + i)⟩ ∧ (wayF f E k0)[2 * i + 1]? = some ⟨e.td, e.fr, f (k0 + i)⟩
  | [], _, _, _, h => by simp at h
  | a :: r, k0, 0, e, h => by
    obtain rfl : a = e := by simpa using h
    exact ⟨rfl, rfl⟩
  | a :: r, k0, i + 1, e, h => by
    have ih := wayF_at f (E := r) (k0 := k0 + 1) (i := i) (e := e) (by simpa using h)
    rw [show k0 + 1 + i = k0 + (i + 1) by omega] at ih
    refine ⟨?_, ?_⟩
    · rw [show 2 * (i + 1) = 2 * i + 1 + 1 by omega]
      simpa [wayF] using ih.1
    · rw [show 2 * (i + 1) + 1 = 2 * i + 1 + 1 + 1 by omega]
      simpa [wayF] using ih.2
theorem wayF_half {f : Nat → Int} {E : List Ed} {k : Nat} {e : Ed} (h : E[k]? = some e) (b : Bool) : (wayF f E 0)[hI (k, b)]? = some ⟨near e b, far e b, roomP E f (k, b)⟩ := by
  obtain ⟨h1, h2⟩ := wayF_at f (k0 := 0) h
  rw [Nat.zero_add] at h1 h2
  unfold hI roomP near far
  cases b
  · simp only [Bool.false_eq_true, if_false]
    exact h2
  · simp only [if_true, Nat.add_zero, getD_at h]
    exact h1
theorem wayF_inv {f : Nat → Int} {E : List Ed} {i : Nat} {x : S95} (h : (wayF f E 0)[i]? = some x) : ∃ (k : Nat) (b : Bool) (e : Ed), i = hI (k, b) ∧ E[k]? = some e ∧ x = ⟨near e b, far e b, roomP E f (k, b)⟩ := by
  have hl := (List.getElem?_eq_some_iff.1 h).1
  rw [wayF_len] at hl
  have hk : i / 2 < E.length := by omega
  have he : E[i / 2]? = some (E[i / 2]'hk) := List.getElem?_eq_getElem hk
  refine ⟨i / 2, decide (i % 2 = 0), _, ?_, he, ?_⟩
  · unfold hI
    by_cases q : i % 2 = 0
    · simp only [q, decide_true, if_true]; omega
    · simp only [q, decide_false, Bool.false_eq_true, if_false]; omega
  · have h2 := wayF_half (f := f) he (decide (i % 2 = 0))
    have e1 : hI (i / 2, decide (i % 2 = 0)) = i := by
      unfold hI
      by_cases q : i % 2 = 0
      · simp only [q, decide_true, if_true]; omega
      · simp only [q, decide_false, Bool.false_eq_true, if_false]; omega
    rw [e1, h] at h2
    exact Option.some.inj h2
theorem hI_inj {k j : Nat} {b c : Bool} (h : hI (k, b) = hI (j, c)) : k = j ∧ b = c := by
  unfold hI at h
  cases b <;> cases c <;> simp at h ⊢ <;> omega
theorem hI_xor (k : Nat) (b : Bool) : hI (k, b) ^^^ 1 = hI (k, !b) := by
  have h1 := Nat.xor_div_two (a := hI (k, b)) (b := 1)
  have h2 := Nat.xor_mod_two_pow (a := hI (k, b)) (b := 1) (n := 1)
  simp only [Nat.reduceDiv, Nat.xor_zero, Nat.pow_one] at h1 h2
  unfold hI at h1 h2 ⊢
  cases b
  · simp only [Bool.not_false, Bool.false_eq_true, if_true, if_false] at h1 h2 ⊢
    rw [show (2 * k + 1) % 2 = 1 by omega] at h2
    simp at h2
    omega
  · simp only [Bool.not_true, Bool.false_eq_true, if_true, if_false, Nat.add_zero] at h1 h2 ⊢
    rw [show (2 * k) % 2 = 0 by omega, show (0 : Nat) ^^^ 1 % 2 = 1 from rfl] at h2
    omega
/-- A push by one. -/
theorem wayF_push {f : Nat → Int} {E : List Ed} {k : Nat} {e : Ed} (h : E[k]? = some e) (b : Bool) :
    ((wayF f E 0).set (hI (k, b)) ⟨near e b, far e b, roomP E f (k, b) - 1⟩).set (hI (k, !b)) ⟨near e (!b), far e (!b), roomP E f (k, !b) + 1⟩ = wayF (upd f k (sgn b 1)) E 0 := by
  have hk := (List.getElem?_eq_some_iff.1 h).1
  have hlt : ∀ c, hI (k, c) < 2 * E.length := fun c => by unfold hI; cases c <;> simp <;> omega
  apply List.ext_getElem?
  intro i
  by_cases hi : i < 2 * E.length
  · obtain ⟨x, hx⟩ : ∃ x, (wayF f E 0)[i]? = some x := ⟨_, List.getElem?_eq_getElem (by rw [wayF_len]; exact hi)⟩
    obtain ⟨j, c, a, rfl, ha, rfl⟩ := wayF_inv hx
    rw [wayF_half ha c]
    by_cases hj : j = k
    · subst hj
      rw [h] at ha
      cases ha
      by_cases hc : c = b
      · subst hc
        rw [List.getElem?_set_ne (fun q => by have := (hI_inj q).2; cases c <;> cases this), List.getElem?_set_self (by rw [wayF_len]; exact hlt c), room_upd_same]
      · obtain rfl : c = !b := by cases b <;> cases c <;> simp at hc ⊢
        rw [List.getElem?_set_self (by rw [List.length_set, wayF_len]; exact hlt _), room_upd_back]
    · rw [List.getElem?_set_ne (fun q => hj (hI_inj q).1.symm), List.getElem?_set_ne (fun q => hj (hI_inj q).1.symm), hx, room_upd_other c _ hj]
  · rw [List.getElem?_eq_none (by rw [List.length_set, List.length_set, wayF_len]; omega), List.getElem?_eq_none (by rw [wayF_len]; omega)]
/-- A way, by the halves of its edges. -/
def Wh (E : List Ed) (f : Nat → Int) : Nat → List (Nat × Bool) → Prop
  | v, [] => v = 0
  | v, (k, b) :: r => v ≠ 0 ∧ ∃ e, E[k]? = some e ∧ far e b = v ∧ 0 < roomP E f (k, b) ∧ Wh E f (near e b) r
theorem wh_of {E : List Ed} {f : Nat → Int} {d : Nat → Nat} : ∀ {P : List Int} {v : Nat}, Wl (wayF f E 0) d v P → ∃ H : List (Nat × Bool), P = H.map (fun h => (hI h : Int)) ∧ Wh E f v H ∧ (H.map Prod.fst).Nodup ∧ ∀ k b e, (k, b) ∈ H → E[k]? = some e → d (far e b) ≤ d v ∧ d (near e b) < d (far e b)
  | [], v, h => ⟨[], rfl, h, by simp, fun k b e hk => by cases hk⟩
  | i :: r, v, ⟨h0, k0, x, hik, hx, h1, h2, h3, h4⟩ => by
    subst hik
    obtain ⟨k, b, e, rfl, he, rfl⟩ := wayF_inv hx
    simp only [Int.toNat_natCast] at h1 h2 h3 h4
    have hf : far e b = v := by omega
    obtain ⟨H, q1, q2, q3, q4⟩ := wh_of h4
    refine ⟨(k, b) :: H, by rw [q1]; rfl, ⟨h0, e, he, hf, h2, q2⟩, ?_, ?_⟩
    · rw [List.map_cons, List.nodup_cons]
      refine ⟨fun hm => ?_, q3⟩
      obtain ⟨⟨k', b'⟩, m1, m2⟩ := List.mem_map.mp hm
      obtain rfl : k' = k := m2
      obtain ⟨t1, t2⟩ := q4 k' b' e m1 he
      by_cases hb : b' = b
      · subst hb
        rw [hf] at t1
        omega
      · obtain rfl : b' = !b := by cases b <;> cases b' <;> simp at hb ⊢
        rw [near_not, hf] at t2
        rw [far_not] at t1 t2
        omega
    · intro k' b' e' hm' he'
      rcases List.mem_cons.mp hm' with q | q
      · injection q with p1 p2
        subst p1 p2
        rw [he] at he'
        cases he'
        rw [hf]
        exact ⟨Nat.le_refl _, h3⟩
      · obtain ⟨t1, t2⟩ := q4 k' b' e' q he'
        exact ⟨by omega, t2⟩
theorem wh_congr {E : List Ed} {f g : Nat → Int} : ∀ {H : List (Nat × Bool)} {v : Nat}, (∀ h ∈ H, roomP E g h = roomP E f h) → Wh E f v H → Wh E g v H
  | [], _, _, h => h
  | (k, b) :: r, v, hr, ⟨h1, e, h3, h4, h7, h8⟩ => ⟨h1, e, h3, h4, by rw [hr _ List.mem_cons_self]; exact h7, wh_congr (fun h hm => hr h (List.mem_cons_of_mem _ hm)) h8⟩
theorem wh_step {E : List Ed} {f : Nat → Int} {k : Nat} {b : Bool} {r : List (Nat × Bool)} {v : Nat} {e : Ed} (he : E[k]? = some e) (hf : far e b = v) (h0 : 0 < roomP E f (k, b)) (hw : Wh E f (near e b) r) (hnd : (((k, b) :: r).map Prod.fst).Nodup) (ho : FlowOk E f) :
    Wh E (upd f k (sgn b 1)) (near e b) r ∧ (r.map Prod.fst).Nodup ∧ FlowOk E (upd f k (sgn b 1)) ∧ ∀ u, exc (upd f k (sgn b 1)) u E 0 = exc f u E 0 + (if v = u then 1 else 0) - (if near e b = u then 1 else 0) := by
  rw [List.map_cons, List.nodup_cons] at hnd
  have hr : ∀ h ∈ r, roomP E (upd f k (sgn b 1)) h = roomP E f h := fun h hm => by
    obtain ⟨j, c⟩ := h
    exact room_upd_other c _ (fun q => hnd.1 (by subst q; exact List.mem_map.mpr ⟨_, hm, rfl⟩))
  refine ⟨wh_congr hr hw, hnd.2, fun j a ha => ?_, fun u => ?_⟩
  · by_cases q : j = k
    · subst q
      rw [he] at ha
      cases ha
      have h2 := ho j e he
      rw [upd_same]
      unfold roomP at h0
      rw [getD_at he] at h0
      cases b
      · simp only [sgn, Bool.false_eq_true, if_false] at h0 ⊢
        omega
      · simp only [sgn, if_true] at h0 ⊢
        omega
    · rw [upd_other f _ q]
      exact ho j a ha
  · have := exc_upd f u (sgn b 1) E 0 k e he
    rw [Nat.zero_add] at this
    rw [this]
    subst hf
    cases b
    · simp only [near, far, sgn, Bool.false_eq_true, if_false]
      split <;> split <;> omega
    · simp only [near, far, sgn, if_true]
/-! ### The two numberings of the nodes -/
theorem rN_lt {R T r m : Nat} (hr : r < R) (hm : m ≤ T) : 0 < rN R r m ∧ rN R r m < lastN R T := by
  have h1 := Nat.mul_le_mul_right R hm
  unfold rN lastN
  rw [Nat.mul_add, Nat.mul_one, Nat.mul_comm R T]
  omega
theorem rN_inj {R r m s k : Nat} (hr : r < R) (hs : s < R) (h : rN R r m = rN R s k) : r = s ∧ m = k := by
  unfold rN at h
  have h1 : (m * R + r) % R = (k * R + s) % R := by congr 1; omega
  have h2 : (m * R + r) / R = (k * R + s) / R := by congr 1; omega
  rw [Nat.mul_comm m R, Nat.mul_comm k R] at h1 h2
  rw [Nat.mul_add_mod, Nat.mul_add_mod, Nat.mod_eq_of_lt hr, Nat.mod_eq_of_lt hs] at h1
  rw [Nat.mul_add_div (by omega), Nat.mul_add_div (by omega), Nat.div_eq_of_lt hr, Nat.div_eq_of_lt hs] at h2
  exact ⟨h1, by omega⟩
theorem lastN_pos (R T : Nat) : 0 < lastN R T := by unfold lastN; omega
theorem xN_lt {R T v : Nat} (hv : v < nodeN T R 0) : xN R T v < lastN R T + 1 := by
  by_cases e0 : v = 0
  · subst e0
    rw [xN_zero]
    omega
  · by_cases e1 : v = 1
    · subst e1
      rw [xN_one]
      omega
    · obtain ⟨r, m, q1, q2, rfl⟩ := node_of (by omega) hv
      rw [xN_node q2]
      have := rN_lt q1 q2
      omega
theorem xN_inj {R T v u : Nat} (hv : v < nodeN T R 0) (hu : u < nodeN T R 0) (h : xN R T v = xN R T u) : v = u := by
  have kind : ∀ v, v < nodeN T R 0 → v = 0 ∨ v = 1 ∨ ∃ r m, r < R ∧ m ≤ T ∧ v = nodeN T r m := fun v hv => by
    by_cases e0 : v = 0
    · exact .inl e0
    · by_cases e1 : v = 1
      · exact .inr (.inl e1)
      · exact .inr (.inr (node_of (by omega) hv))
  have lp := lastN_pos R T
  rcases kind v hv with rfl | rfl | ⟨r, m, hr, hm, rfl⟩
  · rcases kind u hu with rfl | rfl | ⟨s, k, hs, hk, rfl⟩
    · rfl
    · rw [xN_zero, xN_one] at h; omega
    · rw [xN_zero, xN_node hk] at h; have := rN_lt hs hk; omega
  · rcases kind u hu with rfl | rfl | ⟨s, k, hs, hk, rfl⟩
    · rw [xN_zero, xN_one] at h; omega
    · rfl
    · rw [xN_one, xN_node hk] at h; have := rN_lt hs hk; omega
  · rcases kind u hu with rfl | rfl | ⟨s, k, hs, hk, rfl⟩
    · rw [xN_zero, xN_node hm] at h; have := rN_lt hr hm; omega
    · rw [xN_one, xN_node hm] at h; have := rN_lt hr hm; omega
    · rw [xN_node hm, xN_node hk] at h
      obtain ⟨rfl, rfl⟩ := rN_inj hr hs h
      rfl
theorem exc_map {f : Nat → Int} {F : Ed → Ed} {g : Nat → Nat} {v : Nat} : ∀ {E : List Ed} {k : Nat}, (∀ e ∈ E, ((F e).fr = g v ↔ e.fr = v) ∧ ((F e).td = g v ↔ e.td = v)) → exc f (g v) (E.map F) k = exc f v E k
  | [], _, _ => rfl
  | e :: r, k, h => by
    have h1 := h e List.mem_cons_self
    simp only [List.map_cons, exc, exc_map (E := r) (k := k + 1) (fun x hx => h x (List.mem_cons_of_mem _ hx)), h1.1, h1.2]
section
variable {ps : List Int} {qs : List S45} {T : Nat} {f : Nat → Int}
theorem edX_at {k : Nat} {e : Ed} (h : (edH ps qs T)[k]? = some e) : (edX ps qs T)[k]? = some (xE ps T e) := by
  unfold edX
  rw [List.getElem?_map, h]
  rfl
theorem edX_exc (h : HOk ps qs) {v : Nat} (hv : v < nodeN T ps.length 0) : exc f (xN ps.length T v) (edX ps qs T) 0 = exc f v (edH ps qs T) 0 := by
  unfold edX
  refine exc_map (g := xN ps.length T) fun e he => ?_
  obtain ⟨h1, h2, _⟩ := edH_ok (T := T) h e he
  exact ⟨⟨fun q => xN_inj h1 hv q, fun q => by rw [← q]; rfl⟩, ⟨fun q => xN_inj h2 hv q, fun q => by rw [← q]; rfl⟩⟩
theorem edX_ok (h : HOk ps qs) : ∀ e ∈ edX ps qs T, e.fr < lastN ps.length T + 1 ∧ e.td < lastN ps.length T + 1 := by
  intro e he
  obtain ⟨a, ha, rfl⟩ := List.mem_map.mp he
  obtain ⟨h1, h2, _⟩ := edH_ok (T := T) h a ha
  exact ⟨xN_lt h1, xN_lt h2⟩
theorem wsX (h : HOk ps qs) (f : Nat → Int) : WsOk (wayF f (edX ps qs T) 0) (lastN ps.length T + 1) := by
  intro x hx
  obtain ⟨i, hi⟩ := List.mem_iff_getElem?.mp hx
  obtain ⟨k, b, e, _, he, rfl⟩ := wayF_inv hi
  have := edX_ok h e (List.mem_of_getElem? he)
  cases b <;> simp only [near, far, Bool.false_eq_true, if_true, if_false] <;> omega
theorem allP_nonneg (h : HOk ps qs) : 0 ≤ allP ps := by
  unfold allP
  exact sumN_nonneg fun r hr => (h.p _ (getD_mem (z := 0) hr)).1
theorem edX_cap (h : HOk ps qs) : ∀ e ∈ edX ps qs T, 0 ≤ e.cap ∧ e.cap ≤ 1073741824 := by
  intro e he
  obtain ⟨a, ha, rfl⟩ := List.mem_map.mp he
  have h1 := edH_cap h a ha
  have h2 := allP_le h
  have h3 := allP_nonneg h
  unfold xE
  simp only
  split <;> omega
/-- Where the reference stands: so many are out. -/
structure Xf (ps : List Int) (qs : List S45) (T : Nat) (f : Nat → Int) (n : Int) : Prop where
  ok : FlowOk (edX ps qs T) f
  calm : ∀ v, v ≠ 0 → v ≠ lastN ps.length T → exc f v (edX ps qs T) 0 = 0
  out : exc f (lastN ps.length T) (edX ps qs T) 0 = n
theorem Xf.first (h : HOk ps qs) : Xf ps qs T (fun _ => 0) 0 := ⟨fun k e he => ⟨Int.le_refl _, (edX_cap h e (List.mem_of_getElem? he)).1⟩, fun v _ _ => exc_zero v _ 0, exc_zero _ _ 0⟩
theorem Xf.hflow {n : Int} (X : Xf ps qs T f n) (h : HOk ps qs) : HFlow ps qs T f n := by
  refine ⟨fun k e he => (X.ok k _ (edX_at he)).1, fun k e he hc => ?_, fun v hv h0 h1 => ?_, ?_⟩
  · have := (X.ok k _ (edX_at he)).2
    unfold xE at this
    simp only at this
    rw [if_neg (fun z => by rcases hc with q | q; exact z.1 q; exact q z.2)] at this
    exact this
  · rw [← edX_exc h hv]
    have lp := lastN_pos ps.length T
    refine X.calm _ (fun e => h0 ?_) (fun e => h1 ?_)
    · exact xN_inj hv (by have := one_lt ps T; omega) (e.trans (xN_zero _ _).symm)
    · exact xN_inj hv (one_lt ps T) (e.trans (xN_one _ _).symm)
  · rw [← edX_exc h (one_lt ps T), xN_one]
    exact X.out
theorem Xf.le {n : Int} (X : Xf ps qs T f n) (h : HOk ps qs) : n ≤ allP ps := (X.hflow h).out_le h
theorem bound_all (h : HOk ps qs) : boundU ps qs T (fun _ => T + 1) = allP ps := by
  unfold boundU allP
  rw [sumQ_congr (b := fun _ _ => 0), sumQ_zero, Int.add_zero]
  · exact sumN_congr fun r _ => if_pos (Nat.succ_pos T)
  · intro i k _ hk
    exact if_neg (fun z => by have h1 : T + 1 ≤ k := z.1; omega)
theorem Xf.most {n : Int} (X : Xf ps qs T f n) (h : HOk ps qs) (S : Nat → Prop) (h0 : S 0) (h1 : ¬ S (lastN ps.length T)) (hc : ∀ x ∈ wayF f (edX ps qs T) 0, S x.f0.toNat → 0 < x.f2 → S x.f1.toNat) : IsMost ps qs T n := by
  have F := X.hflow h
  have half : ∀ (k : Nat) (e : Ed), (edX ps qs T)[k]? = some e → ∀ b, S (near e b) → ¬ S (far e b) → roomP (edX ps qs T) f (k, b) ≤ 0 := by
    intro k e he b hs ht
    have := hc _ (List.mem_of_getElem? (wayF_half (f := f) he b))
    simp only [Int.toNat_natCast] at this
    by_cases q : 0 < roomP (edX ps qs T) f (k, b)
    · exact absurd (this hs q) ht
    · omega
  have cut : ∀ (k : Nat) (e : Ed), (edH ps qs T)[k]? = some e → (S (xN ps.length T e.fr) → ¬ S (xN ps.length T e.td) → f k = (xE ps T e).cap) ∧ (¬ S (xN ps.length T e.fr) → S (xN ps.length T e.td) → f k = 0) := by
    intro k e he
    have hx := edX_at he
    have hok := X.ok k _ hx
    refine ⟨fun a b => ?_, fun a b => ?_⟩
    · have := half k _ hx true a b
      unfold roomP at this
      rw [getD_at hx] at this
      simp only [if_true] at this
      omega
    · have := half k _ hx false b a
      unfold roomP at this
      simp only [Bool.false_eq_true, if_false] at this
      omega
  by_cases sat : ∃ r m k, r < ps.length ∧ m < T ∧ (edH ps qs T)[k]? = some (holdE T r m) ∧ f k = allP ps
  · obtain ⟨r, m, k, hr, hm, hk, e⟩ := sat
    have a1 := F.hold_le h hm hk
    have a2 := F.out_le h
    obtain rfl : n = allP ps := by omega
    exact ⟨⟨_, F.use h⟩, fun _ => T + 1, fun _ _ => Nat.le_refl _, bound_all h⟩
  · have up : ∀ r m, r < ps.length → m < T → S (rN ps.length r m) → S (rN ps.length r (m + 1)) := by
      intro r m hr hm hs
      refine Classical.byContradiction fun q => ?_
      obtain ⟨k, hk⟩ := hold_mem (qs := qs) hr hm
      have c1 := (cut k _ hk).1
      have hn := nodeN_two T r m
      unfold holdE at c1
      simp only [xN_node (show m ≤ T by omega), xN_node (show m + 1 ≤ T by omega)] at c1
      have := c1 hs q
      unfold xE at this
      simp only at this
      rw [if_pos ⟨by omega, trivial⟩] at this
      exact sat ⟨r, m, k, hr, hm, hk, this⟩
    have ups : ∀ r m, r < ps.length → S (rN ps.length r m) → ∀ j, m + j ≤ T → S (rN ps.length r (m + j)) := by
      intro r m hr hi j
      induction j with
      | zero => intro _; exact hi
      | succ j ih =>
        intro hj
        exact up r (m + j) hr (by omega) (ih (by omega))
    have hx : ∀ r, ∃ h, h ≤ T + 1 ∧ (∀ m, m < h → ¬ S (rN ps.length r m)) ∧ (h ≤ T → S (rN ps.length r h)) := fun r => first_of (fun m => S (rN ps.length r m)) T
    have hsp := fun r => Classical.choose_spec (hx r)
    refine ⟨⟨_, F.use h⟩, fun r => Classical.choose (hx r), fun r _ => (hsp r).1, ?_⟩
    refine F.most h (fun v => S (xN ps.length T v)) (by rw [xN_zero]; exact h0) (by rw [xN_one]; exact h1) _ (fun r m hr hm => ?_) (fun k e he => ?_)
    · rw [xN_node hm]
      obtain ⟨q1, q2, q3⟩ := hsp r
      constructor
      · intro q
        have := ups r _ hr (q3 (by omega)) (m - Classical.choose (hx r)) (by omega)
        rw [show Classical.choose (hx r) + (m - Classical.choose (hx r)) = m by omega] at this
        exact this
      · intro q
        by_cases z : Classical.choose (hx r) ≤ m
        · exact z
        · exact absurd q (q2 m (by omega))
    · refine ⟨fun a b => ?_, (cut k e he).2⟩
      have c1 := (cut k e he).1 a b
      rw [c1]
      unfold xE
      simp only
      by_cases z : e.fr ≠ 0 ∧ e.up = -1
      · refine absurd ?_ sat
        rcases List.mem_append.mp (List.mem_of_getElem? he) with hm | hm
        · obtain ⟨r, hr, rfl | ⟨m, hm', rfl⟩⟩ := edRs_mem hm
          · exact absurd rfl z.1
          · refine ⟨r, m, k, hr, hm', he, ?_⟩
            rw [c1]
            unfold xE
            simp only
            exact if_pos ⟨z.1, trivial⟩
        · obtain ⟨i, m, hi, hm', rfl⟩ := edQs_mem hm
          have := z.2
          simp only at this
          omega
      · rw [if_neg z]
end
end Go.Proofs.Ytmnjlnkfihklgaa.T
namespace Go.Proofs.Ytmnjlnkfihklgaa.T
open Go.RowKit Go.Proofs.YtmnjlnkfihklgaaW.PrintWords Go.Proofs.YtmnjlnkfihklgaaW.PrintMore
open Go.Proofs.Ytmnjlnkfihklgaa.P
set_option linter.unusedVariables false
set_option linter.unusedSimpArgs false

theorem bits_xor1 {i : Nat} (hi : i < 4611686018427387904) : bits .xor .i64 (i : Int) (1 : Int) = ((i ^^^ 1 : Nat) : Int) := by
  have hx : i ^^^ 1 < 2 ^ 62 := Nat.xor_lt_two_pow (by omega) (by omega)
  have h1 : (BitVec.ofInt 64 (i : Int)).toNat = i := by
    rw [BitVec.ofInt_natCast, BitVec.toNat_ofNat]; exact Nat.mod_eq_of_lt (by omega)
  have h2 : (BitVec.ofInt 64 (1 : Int)).toNat = 1 := rfl
  show IntKind.i64.wrap ((BitVec.ofInt 64 (i : Int) ^^^ BitVec.ofInt 64 (1 : Int)).toNat : Int) = _
  rw [BitVec.toNat_xor, h1, h2]
  exact IntWalk.i64_in _ (by omega)
theorem runs_xor1 {N : Nat} {env : E.Env} {o : Oper} {w : World} {t u : TypeId} {x y : Operand} {i j : Nat} (hi : i < 4611686018427387904) (hj : i ^^^ 1 = j) (ho : o.op = .binOp .xor t x y u) (hx : E.Ev env x (.int .i64 (i : Int))) (hy : E.Ev env y (.int .i64 1)) : E.Runs Try.prog N env o w (.int .i64 (j : Int)) := fun a w' ha hw => by
  have e1 := ha.eval hx
  have e2 := ha.eval hy
  have e3 := bits_xor1 hi
  generalize a.eval = ρ at e1 e2 ⊢
  unfold execOp; rw [ho]; simp only []; rw [e1, e2]
  subst hj
  simp [go_sem, e3]
theorem path_callsN (ls : List S95) (n : Nat) (hn : n = ls.length) (A : Option Addr) (c last : Nat) (w : World) (hL : Kd.C k95 w A ls.length ls) (hW : WsOk ls (last + 1)) (hl1 : 1 ≤ last) (hl2 : last ≤ 10000) (hlen : ls.length ≤ 100000) :
    Calls Try.prog 63 #[.slice A n c, .int .i64 last] w fun e w' => ∃ v P b, e = .returned (.tuple #[v, .bool b]) ∧ Kd.R kI 3 w' w.heap.size (fun _ => True) v P ∧ PathOk ls last P b ∧ Below w.heap.size w w' := by
  subst hn
  exact path_calls ls A c last w hL hW hl1 hl2 hlen
/-- A way of a row: a write of how many are left. -/
theorem row95_at {W : World} {base : Nat} {A : Option Addr} {n c : Nat} {xs : List S95} {i : Nat} {x : S95} (R : Kd.R k95 95 W base (fun _ => True) (.slice A n c) xs) (hi : xs[i]? = some x) :
    ∃ g, A = some ⟨g, 0, none⟩ ∧ base ≤ g ∧ W.cell? ⟨g, i * 3 + 2, none⟩ = some (.int .i64 x.f2) ∧ W.frozen? ⟨g, i * 3 + 2, none⟩ = false ∧ (∃ cells, W.heap[g]? = some (.cells cells 95 (0, 0))) ∧
      (∀ y : Int, ∃ w', w' = W.setCell ⟨g, i * 3 + 2, none⟩ (.int .i64 y) ∧ Kd.R k95 95 w' base (fun _ => True) (.slice A n c) (xs.set i { x with f2 := y }) ∧ W.grownBy w' (some g)) := by
  have hil := (List.getElem?_eq_some_iff.1 hi).1
  obtain ⟨g, cap, hv, hb, hl, cells, hc⟩ := Kd.R_form R (by omega)
  have hn := (Kd.R_reads' R).1
  injection hv with hA hn' hc'
  subst hA hc'
  obtain ⟨cs, h1, h2, h3, h4⟩ := Kd.R_elem R x (i : Int) (by omega) (by omega)
  have hx : xs.getD i x = x := by simp [List.getD_eq_getElem?_getD, hi]
  rw [Int.toNat_natCast, hx] at h2
  obtain rfl := k95_open (Kd.K_of_M k95 h2)
  rw [Int.toNat_natCast] at h3 h4
  refine ⟨g, rfl, hb, h3 2 _ rfl, h4 2, ⟨cells, hc⟩, fun y => ⟨_, rfl, ?_⟩⟩
  have := Kd.R_seg R (i : Int) (by omega) (by omega) (seg := [.int .i64 y]) (j := 2) h1 (by rw [Int.toNat_natCast]; exact h3) (by show 2 + 1 ≤ 3; decide) (x' := { x with f2 := y }) (okp := fun _ => False) (k95_mkM _ _ _ { x with f2 := y }) (fun _ hk => hk.elim)
  rw [Int.toNat_natCast] at this
  exact this
structure Px where
  f : Nat → Int
  n : Int
structure Py where
  g : Nat → Int
  v : Nat
  H : List (Nat × Bool)
  j : Nat
abbrev ints2 (H : List (Nat × Bool)) : List Int := H.map (fun h => (hI h : Int))
/-- A flow, and one more who is on the way to a node. -/
structure Xg (E : List Ed) (last : Nat) (f g : Nat → Int) (v : Nat) (H : List (Nat × Bool)) : Prop where
  wh : Wh E g v H
  nd : (H.map Prod.fst).Nodup
  ok : FlowOk E g
  exc : ∀ u, exc g u E 0 = T.exc f u E 0 + (if last = u then 1 else 0) - (if v = u then 1 else 0)
theorem Xg.step {E : List Ed} {last : Nat} {f g : Nat → Int} {k : Nat} {b : Bool} {r : List (Nat × Bool)} {v : Nat} {e : Ed} (X : Xg E last f g v ((k, b) :: r)) (he : E[k]? = some e) : Xg E last f (upd g k (sgn b 1)) (near e b) r := by
  obtain ⟨_, e', he', hf, h0, hw⟩ := X.wh
  rw [he] at he'
  cases he'
  obtain ⟨q1, q2, q3, q4⟩ := wh_step he hf h0 hw X.nd X.ok
  refine ⟨q1, q2, q3, fun u => ?_⟩
  rw [q4, X.exc]
  omega
theorem Xg.last {ps : List Int} {qs : List S45} {T v : Nat} {f g : Nat → Int} {n : Int} (X : Xg (edX ps qs T) (lastN ps.length T) f g v []) (F : Xf ps qs T f n) : Xf ps qs T g (n + 1) := by
  have h0 : v = 0 := X.wh
  subst h0
  have lp := lastN_pos ps.length T
  refine ⟨X.ok, fun u h1 h2 => ?_, ?_⟩
  · rw [X.exc, F.calm u h1 h2, if_neg (fun e => h2 e.symm), if_neg (fun e => h1 e.symm)]
    rfl
  · rw [X.exc, F.out, if_pos rfl, if_neg (by omega)]
    omega
theorem wh_in {E : List Ed} {f : Nat → Int} : ∀ {H : List (Nat × Bool)} {v : Nat}, Wh E f v H → ∀ h ∈ H, h.1 < E.length
  | [], _, _, h, hm => by cases hm
  | (k, b) :: r, v, ⟨_, e, he, _, _, hw⟩, h, hm => by
    rcases List.mem_cons.mp hm with rfl | hm
    · exact (List.getElem?_eq_some_iff.1 he).1
    · exact wh_in hw h hm
theorem wh_few {E : List Ed} {f : Nat → Int} {H : List (Nat × Bool)} {v : Nat} (h : Wh E f v H) (hn : (H.map Prod.fst).Nodup) : H.length ≤ E.length := by
  have := nodup_len (k := List.range E.length) hn (fun x hx => by
    obtain ⟨y, hy, rfl⟩ := List.mem_map.mp hx
    exact List.mem_range.mpr (wh_in h y hy))
  simpa using this
theorem lastN_small {R T : Nat} (hR : R ≤ 6) (hT : T ≤ 60) : lastN R T ≤ 400 := by
  have := Nat.mul_le_mul hR (show T + 1 ≤ 61 by omega)
  unfold lastN
  omega
theorem edX_few {ps : List Int} {qs : List S45} {T : Nat} (h : HOk ps qs) (hT : T ≤ 60) : (edX ps qs T).length ≤ 2000 := by
  unfold edX
  rw [List.length_map]
  have := edH_len h hT
  omega
theorem hI_lt {E : List Ed} {k : Nat} {b : Bool} (h : k < E.length) : hI (k, b) < 2 * E.length := by unfold hI; cases b <;> simp <;> omega
set_option maxRecDepth 100000 in
set_option maxHeartbeats 8000000 in

theorem mostR_calls (ps : List Int) (qs : List S45) (A B : Option Addr) (c d T : Nat) (w : World) (hok : HOk ps qs) (hT : T ≤ 60) (hP : Kd.C kI w A ps.length ps) (hQ : Kd.C k45 w B qs.length qs) :
    Calls Try.prog 52 #[hv ps qs A B c d, .int .i64 (T : Int)] w fun e w' => ∃ N, e = .returned (.int .i64 N) ∧ IsMost ps qs T N ∧ Below w.heap.size w w' := by
  have hu3 := Try.underlying3
  have hu22 := Try.underlying22
  have hu25 := Try.underlying25
  have hu89 := Try.underlying89
  have hu95 := Try.underlying95
  obtain ⟨z3, o3⟩ := info_some info3s (by decide)
  obtain ⟨z22, o22⟩ := info_some info22s (by decide)
  obtain ⟨z25, o25⟩ := info_some info25s (by decide)
  obtain ⟨z89, o89⟩ := info_some info89s (by decide)
  obtain ⟨z95, o95⟩ := info_some info95s (by decide)
  have hr6 := hok.r6
  have hla := lastN_small hr6 hT
  have hlp := lastN_pos ps.length T
  have hfew := edX_few hok hT
  refine E.enter (N := 57) Try.func52 rfl Try.ntmps52 (args := [hv ps qs A B c d, .int .i64 (T : Int)]) (by simp) ?_
  have L := Below.refl w.heap.size w
  refine E.CG.seq ?_
  refine E.CG.list ?_
  refine E.GL.st rfl rfl rfl (E.ST.box rfl rfl fun g2 w2 e2 b2 l2 => ?_)
  have h2_L : w.heap.size ≤ g2 := by rw [e2]; exact L.size
  replace L := below_step L l2
  refine E.GL.run rfl rfl rfl (E.Runs.assign rfl rfl) ?_
  refine E.GL.done ?_
  refine E.QG.code ?_
  refine E.CG.seq ?_
  refine E.CG.list ?_
  refine E.GL.run rfl rfl rfl (E.Runs.loads (cs := [.slice A ps.length c, .slice B qs.length d]) rfl rfl hu25 rfl info25s (blk_cells b2)) ?_
  refine E.GL.run rfl rfl rfl (E.Runs.move rfl rfl) ?_
  have hs14 := L.size
  refine E.GL.st rfl rfl rfl (E.ST.call rfl ent62 (E.evc rfl (E.evc rfl E.evn)) ((ways_calls ps qs A B c d T _ hok hT (Kd.C_below hP L) (Kd.C_below hQ L)).mono ?_))
  rintro e w14 ⟨v14, rfl, R14, l14⟩
  refine ⟨_, rfl, ?_⟩
  replace b2 := blk_below b2 l14
  replace L := below_step L l14
  obtain ⟨A5, c5, hv14⟩ := Kd.R_slice R14
  subst hv14
  rw [way0_len]
  rw [way0_len, ← wayF_zero (edX ps qs T) 0] at R14
  have R5 := Kd.R_lower R14 hs14
  clear R14
  have hXf := Xf.first (T := T) hok
  refine E.GL.run rfl rfl rfl (E.Runs.move rfl rfl) ?_
  refine E.GL.run rfl rfl rfl (E.Runs.extract rfl rfl rfl) ?_
  refine E.GL.run rfl rfl rfl (E.Runs.extract rfl rfl rfl) ?_
  refine E.GL.run rfl rfl rfl (E.Runs.assign rfl rfl) ?_
  refine E.GL.run rfl rfl rfl (E.Runs.assign rfl rfl) ?_
  refine E.GL.done ?_
  refine E.QG.code ?_
  refine E.CG.seq ?_
  refine E.CG.list ?_
  refine E.GL.run rfl rfl rfl (E.Runs.assign rfl rfl) ?_
  refine E.GL.done ?_
  refine E.QG.code ?_
  refine E.CG.block ?_
  have s4_b2 := b2
  have s4_L := L
  refine E.CG.loop (fun (s : Px) => [(5, .slice A5 (2 * (edX ps qs T).length) c5), (6, .int .i64 ((lastN ps.length T : Nat) : Int)), (7, .int .i64 s.n)]) (fun s w' => Xf ps qs T s.f s.n ∧ 0 ≤ s.n ∧ Kd.R k95 95 w' w.heap.size (fun _ => True) (.slice A5 (2 * (edX ps qs T).length) c5) (wayF s.f (edX ps qs T) 0) ∧ Below w.heap.size w w') (fun s => (allP ps - s.n).toNat) ⟨fun _ => 0, 0⟩ (E.subc rfl (E.subc rfl (E.subc rfl E.subn))) ⟨hXf, (by show (0 : Int) ≤ 0; omega), R5, L⟩ ?_
  rintro s w4 ⟨hXf, hn0, R5, L⟩
  have hXle := hXf.le hok
  have hall := allP_le hok
  refine E.CG.seq ?_
  refine E.CG.block ?_
  refine E.CG.seq ?_
  refine E.CG.list ?_
  refine E.GL.run rfl rfl rfl (E.Runs.move rfl rfl) ?_
  refine E.GL.run rfl rfl rfl (E.Runs.move rfl rfl) ?_
  have hs22 := L.size
  refine E.GL.st rfl rfl rfl (E.ST.call rfl ent63 (E.evc rfl (E.evc rfl E.evn)) ((path_callsN (wayF s.f (edX ps qs T) 0) (2 * (edX ps qs T).length) (wayF_len _ _ _).symm A5 c5 (lastN ps.length T) _ (Kd.R_reads' R5).2.2 (wsX hok s.f) (by omega) (by omega) (by rw [wayF_len]; omega)).mono ?_))
  rintro e w22 ⟨v22, P, b22, rfl, R22, hK, l22⟩
  refine ⟨_, rfl, ?_⟩
  replace R5 := Kd.R_below R5 l22
  replace L := below_step L l22
  obtain ⟨A8, c8, hv22⟩ := Kd.R_slice R22
  subst hv22
  have R8 := Kd.R_lower R22 hs22
  clear R22
  refine E.GL.run rfl rfl rfl (E.Runs.move rfl rfl) ?_
  refine E.GL.run rfl rfl rfl (E.Runs.extract rfl rfl rfl) ?_
  refine E.GL.run rfl rfl rfl (E.Runs.extract rfl rfl rfl) ?_
  refine E.GL.run rfl rfl rfl (E.Runs.assign rfl rfl) ?_
  refine E.GL.run rfl rfl rfl (E.Runs.assign rfl rfl) ?_
  refine E.GL.done ?_
  refine E.QG.code ?_
  refine E.CG.seq ?_
  refine E.CG.seq ?_
  refine E.CG.list ?_
  rcases b22 with _ | _
  · refine E.GL.run rfl rfl rfl (E.Runs.move rfl rfl) ?_
    refine E.GL.run rfl rfl rfl (E.Runs.not rfl rfl) ?_
    refine E.GL.done ?_
    refine E.QG.code ?_
    refine E.CG.cond_t rfl ?_
    refine E.CG.seq ?_
    refine E.CG.list ?_
    refine E.GL.run rfl rfl rfl (E.Runs.move rfl rfl) ?_
    refine E.GL.run rfl rfl rfl (E.Runs.assign rfl rfl) ?_
    refine E.GL.done ?_
    refine E.QG.code ?_
    refine E.CG.ret ?_
    refine E.QG.pass_ret ?_
    refine E.QG.block_ret ?_
    refine E.QG.pass_ret ?_
    refine E.QG.pass_ret ?_
    refine E.QG.block_ret ?_
    obtain ⟨S, hS0, hS1, hS2⟩ := hK.2 rfl
    exact E.QG.result rfl rfl ⟨s.n, rfl, hXf.most hok S hS0 hS1 hS2, L⟩
  · refine E.GL.run rfl rfl rfl (E.Runs.move rfl rfl) ?_
    refine E.GL.run rfl rfl rfl (E.Runs.not rfl rfl) ?_
    refine E.GL.done ?_
    refine E.QG.code ?_
    refine E.CG.cond_f rfl ?_
    refine E.CG.skip ?_
    refine E.QG.code ?_
    refine E.CG.seq ?_
    refine E.CG.list ?_
    refine E.GL.run rfl rfl rfl (E.Runs.assign rfl rfl) ?_
    refine E.GL.done ?_
    refine E.QG.code ?_
    refine E.CG.block ?_
    obtain ⟨dd, hdd⟩ := hK.1 rfl
    obtain ⟨H0, hH1, hH2, hH3, _⟩ := wh_of hdd
    have hPl : P.length ≤ 2000 := by rw [hH1, List.length_map]; have := wh_few hH2 hH3; omega
    have s8_L := L
    refine E.CG.loop (fun (s2 : Py) => [(5, .slice A5 (2 * (edX ps qs T).length) c5), (6, .int .i64 ((lastN ps.length T : Nat) : Int)), (7, .int .i64 s.n), (8, .slice A8 P.length c8), (10, .int .i64 s2.j)]) (fun s2 w' => Xg (edX ps qs T) (lastN ps.length T) s.f s2.g s2.v s2.H ∧ P.drop s2.j = ints2 s2.H ∧ s2.j ≤ P.length ∧ Kd.R kI 3 w' w.heap.size (fun _ => True) (.slice A8 P.length c8) P ∧ Kd.R k95 95 w' w.heap.size (fun _ => True) (.slice A5 (2 * (edX ps qs T).length) c5) (wayF s2.g (edX ps qs T) 0) ∧ Below w.heap.size w w') (fun s2 => P.length - s2.j) ⟨s.f, lastN ps.length T, H0, 0⟩ (E.subc rfl (E.subc rfl (E.subc rfl (E.subc rfl (E.subc rfl E.subn))))) ⟨⟨hH2, hH3, hXf.ok, fun u => by simp only; omega⟩, hH1, Nat.zero_le _, R8, R5, L⟩ ?_
    rintro s2 w8 ⟨hX, hdr, hj, R8, R5, L⟩
    refine E.CG.seq ?_
    refine E.CG.seq ?_
    refine E.CG.list ?_
    refine E.GL.run rfl rfl rfl (E.Runs.move rfl rfl) ?_
    refine E.GL.run rfl rfl rfl (E.Runs.move rfl rfl) ?_
    refine E.GL.run rfl rfl rfl (E.Runs.len rfl rfl hu22) ?_
    refine E.GL.cmp rfl rfl rfl (fun _ h => (E.Runs.lss rfl rfl rfl h)) (fun h31 => ?_) (fun h31 => ?_)
    · obtain ⟨⟨k, b⟩, r, hP0⟩ : ∃ h r, s2.H = h :: r := by
        cases hq : s2.H with
        | nil =>
          rw [hq] at hdr
          have := congrArg List.length hdr
          rw [List.length_drop] at this
          simp only [ints2, List.map_nil, List.length_nil] at this
          omega
        | cons a r => exact ⟨a, r, rfl⟩
      rw [hP0] at hX hdr
      obtain ⟨hv0, e, he, hfar, hroom, _⟩ := id hX.wh
      have hkl := (List.getElem?_eq_some_iff.1 he).1
      have hPj : P[s2.j]? = some ((hI (k, b) : Nat) : Int) := by
        have := congrArg (fun l : List Int => l[0]?) hdr
        simp only [List.getElem?_drop, Nat.add_zero] at this
        rw [this]
        rfl
      have hPr : P.drop (s2.j + 1) = ints2 r := by
        have := congrArg List.tail hdr
        rw [List.tail_drop] at this
        rw [this]
        rfl
      have hX2 := hX.step he
      obtain ⟨g8, eA8, _, c8b, _⟩ := rowI_at R8 hPj
      obtain ⟨g5, e5, h5b, c5b, f5b, ⟨_, b5⟩, st5⟩ := row95_at R5 (wayF_half he b)
      replace c5b : World.cell? _ ⟨g5, hI (k, b) * 3 + 2, none⟩ = some (.int .i64 (roomP (edX ps qs T) s2.g (k, b))) := c5b
      have hro1 := room_le (b := b) hX.ok (fun e he => (edX_cap hok e he).2) he
      have hro2 := room_le (b := !b) hX.ok (fun e he => (edX_cap hok e he).2) he
      have hro3 := room_ge (b := !b) hX.ok he
      refine E.GL.done ?_
      refine E.QG.code ?_
      refine E.CG.cond_t rfl ?_
      refine E.CG.skip ?_
      refine E.QG.code ?_
      refine E.CG.seq ?_
      refine E.CG.block ?_
      refine E.CG.seq ?_
      refine E.CG.list ?_
      refine E.GL.run rfl rfl rfl (E.Runs.move rfl rfl) ?_
      refine E.GL.run rfl rfl rfl (E.Runs.move rfl rfl) ?_
      refine E.GL.run rfl rfl rfl (E.Runs.move rfl rfl) ?_
      refine E.GL.run rfl rfl rfl (E.Runs.indexAddrA (i := s2.j) rfl rfl rfl hu22 z3 o3 (by omega) eA8 (show _ = (⟨g8, s2.j * 1, none⟩ : Addr) from by rw [Go.Addr.add_mid, Nat.zero_add])) ?_
      refine E.GL.run rfl rfl rfl (E.Runs.load rfl rfl hu3 c8b) ?_
      refine E.GL.run rfl rfl rfl (E.Runs.indexAddrA (i := hI (k, b)) rfl rfl rfl hu89 z95 o95 (by have := hI_lt (b := b) hkl; omega) e5 (show _ = (⟨g5, hI (k, b) * 3, none⟩ : Addr) from by rw [Go.Addr.add_mid, Nat.zero_add])) ?_
      refine E.GL.run rfl rfl rfl (E.Runs.fieldAddr rfl rfl hu95 rfl (by assumption) (show _ = (⟨g5, hI (k, b) * 3 + 2, none⟩ : Addr) from rfl)) ?_
      refine E.GL.run rfl rfl rfl (E.Runs.load rfl rfl hu3 c5b) ?_
      refine E.GL.run rfl rfl rfl (E.Runs.sub rfl rfl rfl (IntWalk.i64_in _ (by omega))) ?_
      refine E.GL.run rfl rfl rfl (E.Runs.indexAddrA (i := hI (k, b)) rfl rfl rfl hu89 z95 o95 (by have := hI_lt (b := b) hkl; omega) e5 (show _ = (⟨g5, hI (k, b) * 3, none⟩ : Addr) from by rw [Go.Addr.add_mid, Nat.zero_add])) ?_
      refine E.GL.run rfl rfl rfl (E.Runs.fieldAddr rfl rfl hu95 rfl (by assumption) (show _ = (⟨g5, hI (k, b) * 3 + 2, none⟩ : Addr) from rfl)) ?_
      refine E.GL.sn rfl rfl (E.ST.storeN rfl z3 o3 rfl rfl c5b f5b ?_)
      obtain ⟨w10, hw10, R10, gr10⟩ := st5 (roomP (edX ps qs T) s2.g (k, b) - 1)
      rw [← hw10]
      replace R8 := over_blk R8 b5 (by decide) rfl gr10
      replace L := E.below_own L h5b gr10
      clear R5 st5 c5b f5b b5 gr10 c8b
      refine E.GL.done ?_
      refine E.QG.code ?_
      have hx6 : ((wayF s2.g (edX ps qs T) 0).set (hI (k, b)) ⟨near e b, far e b, roomP (edX ps qs T) s2.g (k, b) - 1⟩)[hI (k, !b)]? = some ⟨near e (!b), far e (!b), roomP (edX ps qs T) s2.g (k, !b)⟩ := by
        have hne : hI (k, b) ≠ hI (k, !b) := fun q => by
          have := (hI_inj q).2
          cases b <;> simp at this
        rw [List.getElem?_set_ne hne]
        exact wayF_half he (!b)
      obtain ⟨g6, e6, _, c6b, f6b, ⟨_, b6⟩, st6⟩ := row95_at R10 hx6
      replace c6b : World.cell? _ ⟨g6, hI (k, !b) * 3 + 2, none⟩ = some (.int .i64 (roomP (edX ps qs T) s2.g (k, !b))) := c6b
      obtain rfl : g5 = g6 := by
        have := e5.symm.trans e6
        injection this with this
        injection this
      obtain ⟨g9, e9, _, c9b, _⟩ := rowI_at R8 hPj
      obtain rfl : g8 = g9 := by
        have := eA8.symm.trans e9
        injection this with this
        injection this
      refine E.CG.list ?_
      refine E.GL.run rfl rfl rfl (E.Runs.move rfl rfl) ?_
      refine E.GL.run rfl rfl rfl (E.Runs.move rfl rfl) ?_
      refine E.GL.run rfl rfl rfl (E.Runs.move rfl rfl) ?_
      refine E.GL.run rfl rfl rfl (E.Runs.indexAddrA (i := s2.j) rfl rfl rfl hu22 z3 o3 (by omega) eA8 (show _ = (⟨g8, s2.j * 1, none⟩ : Addr) from by rw [Go.Addr.add_mid, Nat.zero_add])) ?_
      refine E.GL.run rfl rfl rfl (E.Runs.load rfl rfl hu3 c9b) ?_
      refine E.GL.run rfl rfl rfl (runs_xor1 (i := hI (k, b)) (by have := hI_lt (b := b) hkl; omega) (hI_xor k b) rfl rfl rfl) ?_
      refine E.GL.run rfl rfl rfl (E.Runs.indexAddrA (i := hI (k, !b)) rfl rfl rfl hu89 z95 o95 (by have := hI_lt (b := !b) hkl; omega) e5 (show _ = (⟨g5, hI (k, !b) * 3, none⟩ : Addr) from by rw [Go.Addr.add_mid, Nat.zero_add])) ?_
      refine E.GL.run rfl rfl rfl (E.Runs.fieldAddr rfl rfl hu95 rfl (by assumption) (show _ = (⟨g5, hI (k, !b) * 3 + 2, none⟩ : Addr) from rfl)) ?_
      refine E.GL.run rfl rfl rfl (E.Runs.load rfl rfl hu3 c6b) ?_
      refine E.GL.run rfl rfl rfl (E.Runs.add rfl rfl rfl (IntWalk.i64_in _ (by omega))) ?_
      refine E.GL.run rfl rfl rfl (E.Runs.indexAddrA (i := hI (k, !b)) rfl rfl rfl hu89 z95 o95 (by have := hI_lt (b := !b) hkl; omega) e5 (show _ = (⟨g5, hI (k, !b) * 3, none⟩ : Addr) from by rw [Go.Addr.add_mid, Nat.zero_add])) ?_
      refine E.GL.run rfl rfl rfl (E.Runs.fieldAddr rfl rfl hu95 rfl (by assumption) (show _ = (⟨g5, hI (k, !b) * 3 + 2, none⟩ : Addr) from rfl)) ?_
      refine E.GL.sn rfl rfl (E.ST.storeN rfl z3 o3 rfl rfl c6b f6b ?_)
      obtain ⟨w11, hw11, R11, gr11⟩ := st6 (roomP (edX ps qs T) s2.g (k, !b) + 1)
      rw [← hw11]
      replace R8 := over_blk R8 b6 (by decide) rfl gr11
      replace L := E.below_own L h5b gr11
      rw [wayF_push he b] at R11
      clear R10 st6 b6 gr11
      have R5 := R11
      clear R11
      refine E.GL.done ?_
      refine E.QG.block_normal ?_
      refine E.QG.code ?_
      refine E.CG.list ?_
      refine E.GL.run rfl rfl rfl (E.Runs.move rfl rfl) ?_
      refine E.GL.run rfl rfl rfl (E.Runs.add rfl rfl rfl (IntWalk.i64_in _ (by omega))) ?_
      refine E.GL.run rfl rfl rfl (E.Runs.assign rfl rfl) ?_
      refine E.GL.done ?_
      exact E.QG.round ⟨upd s2.g k (sgn b 1), near e b, r, s2.j + 1⟩ (E.subc rfl (E.subc rfl (E.subc rfl (E.subc rfl (E.subc rfl E.subn))))) ⟨hX2, hPr, by simp only; omega, R8, R5, L⟩ (by simp only; omega)
    · have hH0 : s2.H = [] := by
        have := congrArg List.length hdr
        rw [List.length_drop] at this
        simp only [ints2, List.length_map] at this
        exact List.eq_nil_of_length_eq_zero (by omega)
      rw [hH0] at hX
      have hXn := hX.last hXf
      have hXl := hXn.le hok
      refine E.GL.done ?_
      refine E.QG.code ?_
      refine E.CG.cond_f rfl ?_
      refine E.CG.exit ?_
      refine E.QG.pass_exit ?_
      refine E.QG.pass_exit ?_
      refine E.QG.block_here ?_
      refine E.QG.block_normal ?_
      refine E.QG.code ?_
      refine E.CG.list ?_
      refine E.GL.run rfl rfl rfl (E.Runs.move rfl rfl) ?_
      refine E.GL.run rfl rfl rfl (E.Runs.add rfl rfl rfl (IntWalk.i64_in _ (by omega))) ?_
      refine E.GL.run rfl rfl rfl (E.Runs.assign rfl rfl) ?_
      refine E.GL.done ?_
      exact E.QG.round ⟨s2.g, s.n + 1⟩ (E.subc rfl (E.subc rfl (E.subc rfl E.subn))) ⟨hXn, (by show (0 : Int) ≤ s.n + 1; omega), R5, L⟩ (by simp only; omega)

end Go.Proofs.Ytmnjlnkfihklgaa.T
