/- Stores of whole variables. -/
import Derived.Test.YtbajpjnloikpdaaA0
namespace Go.Proofs.Ytbajpjnloikpdaa.T
open Go.RowKit Go.Proofs.YtbajpjnloikpdaaW.PrintWords Go.Proofs.YtbajpjnloikpdaaW.PrintMore
open Go.Proofs.Ytbajpjnloikpdaa.P
set_option linter.unusedVariables false
theorem gb_set {w W : World} {row : Option Nat} (h : w.grownBy W row) {a : Addr} (ha : w.heap.size ≤ a.block ∨ some a.block = row) (v : Value) : w.grownBy (W.setCell a v) row := by
  refine ⟨h.os, h.tape, h.output, by simpa [World.setCell] using h.size, fun k hk hr => (Below.heap_setCell W a v k ?_).trans (h.block k hk hr)⟩
  rcases ha with ha | ha
  · omega
  · rintro rfl
    exact hr ha
section
variable {P : Program} {ops : Array Oper} {rest : List Oper} {op : Oper} {a : Act} {w : World} {Q : Exit → Act → World → Prop}
theorem setCells_block {b : Nat} {t : TypeId} : ∀ (vs pre old : List Value) (w : World), w.heap[b]? = some (.cells (pre ++ old).toArray t (0, 0)) → old.length = vs.length →
    (w.setCells b pre.length vs).heap[b]? = some (.cells (pre ++ vs).toArray t (0, 0)) ∧ w.grownBy (w.setCells b pre.length vs) (some b)
  | [], pre, old, w, h, hl => by
    obtain rfl : old = [] := List.eq_nil_of_length_eq_zero hl
    exact ⟨h, World.grownBy.refl _ _⟩
  | v :: vs, pre, [], w, h, hl => by simp at hl
  | v :: vs, pre, o :: old, w, h, hl => by
    have h1 : (w.setCell ⟨b, pre.length, none⟩ v).heap[b]? = some (.cells ((pre ++ [v]) ++ old).toArray t (0, 0)) := by
      rw [blk_set h]
      congr 1
      simp
    have h2 := setCells_block vs (pre ++ [v]) old _ h1 (by simpa using hl)
    rw [List.length_append, List.length_singleton] at h2
    refine ⟨?_, ?_⟩
    · have := h2.1
      rw [List.append_assoc] at this
      exact this
    · exact (gb_set (World.grownBy.refl w _) (.inr rfl) v).trans h2.2
/-- A whole variable is stored over a block of its size. -/
theorem store_whole (hgd : op.guard = none) (ty : TypeId) (x y : Operand) (ho : op.op = .store ty x y) (b : Nat) (cells old : Array Value) (t : TypeId)
    (hx : a.eval x = .pointer (some ⟨b, 0, none⟩)) (hy : a.eval y = .agg cells) (hb : w.heap[b]? = some (.cells old t (0, 0))) (hs : old.size = cells.size)
    (hi : (P.info? ty).map (·.size) = some cells.size) (h1 : cells.all (·.oneCell') = true)
    (h : ∀ w1, w1.heap[b]? = some (.cells cells t (0, 0)) → w.grownBy w1 (some b) → wpList P ops Q rest (a.put op.dst undef) w1) : wpList P ops Q (op :: rest) a w := by
  have hk := setCells_block (b := b) (t := t) cells.toList [] old.toList w (by simpa using hb) (by simpa using hs)
  refine wpList_store_mid hgd ty x y ho b 0 cells hx hy ?_ hi h1 (h _ (by simpa using hk.1) hk.2)
  intro j hj
  constructor
  · rw [blk_cell hb, Nat.zero_add, Array.getElem?_eq_getElem (by omega)]
    rfl
  · exact blk_frozen hb _
end
end Go.Proofs.Ytbajpjnloikpdaa.T
