/- The engine for great frames: rows of our own that begin, and grow by many; parts of variables written; more of Go's min and max. -/
import Derived.Test.YtbajpjnloikpdaaE5
namespace Go.Proofs.Ytbajpjnloikpdaa.E
open Go.RowKit Go.Proofs.YtbajpjnloikpdaaW.PrintWords Go.Proofs.YtbajpjnloikpdaaW.PrintMore
open Go.Proofs.Ytbajpjnloikpdaa.T
set_option linter.unusedVariables false
set_option linter.unusedSimpArgs false
section
variable {P : Program} {ops : Array Oper} {Q : Exit → Act → World → Prop} {N : Nat} {w : World} {rest : List Oper} {env : Env} {o : Oper} {K : Value → World → Prop}
/-- A slice is written out: a row of our own. -/
theorem ST.litR {α : Type} (d : Kd α) {w0 : World} (base : Nat) {t : TypeId} {m n : Nat} {xs : List (Nat × Operand)} {vs : List (Nat × Value)} {e : TypeId} {ys : List α} {inner : List Value} (hd : o.dst = some n) (ho : o.op = .buildSlice t m xs.toArray) (hx : EvP env xs vs)
    (hr : ∀ W, (Instr.buildSlice t m vs.toArray).run P W = .ok (.slice (some ⟨W.heap.size, 0, none⟩) ys.length ys.length) (W.alloc (.cells inner.toArray e))) (hrep : Reps (d.M w base (fun _ => False)) d.sz ys inner) (HB : Below base w0 w) (hbase : base ≤ w.heap.size) (hm : ys.length ≤ 9223372036854775807)
    (h : ∀ v1 w1, d.R e w1 base (fun _ => True) v1 ys → Below base w0 w1 → w.grownBy w1 none → K v1 w1) : ST P Q N env w o K := by
  intro a ha Kc hK
  have e1 := ha.evalP hx
  have hrun : (execOp a.eval o).run P w = .ok (.value (.slice (some ⟨w.heap.size, 0, none⟩) ys.length ys.length)) (w.alloc (.cells inner.toArray e)) := by
    have hr' := hr w
    generalize a.eval = ρ at e1 ⊢
    unfold execOp; rw [ho]
    simp only [List.map_toArray, e1]
    rw [Sem.run_bind, hr']; rfl
  have h0 : Region.wanted { o with guard := none } (yielded #[] a.tmps) = true := rfl
  have := Kd.R_lit_step (P := P) (ops := #[]) (o := { o with guard := none }) (a := a) (Q := Q) (W := w) (Kc := Kc) d (w0 := w0) base e h0 (N := n) hd (xs := ys) (inner := inner) (ok := fun _ => True) (okp := fun _ => False) hrun hrep (fun _ hk => hk.elim) trivial HB hbase hm
    (fun v1 w1 h1 h2 h3 _ => hK _ _ (h v1 w1 h1 h2 h3))
  rw [if_pos h0] at this
  exact this
/-- append(v, ys...), ys a slice that is read. -/
theorem ST.appendRows {α : Type} (d : Kd α) {w0 W : World} (base : Nat) {s x : Operand} {t e : TypeId} {z : Value} {bytes : Nat}
    (ho : o.op = .call { callee := .builtin .append, args := #[s, x], argTypes := #[t, t] })
    (ht : P.underlying t = some (.slice e)) (hinfo : (P.info? e).map (fun i => (i.zero, i.size, i.bytes)) = some (some z, d.sz, bytes)) (hz : z.cells.size = d.sz) (hs0 : 0 < d.sz) (hb0 : 0 < bytes)
    {v : Value} {xs ys : List α} {A : Option Addr} {m c : Nat} (hs : Ev env s v) (hx : Ev env x (.slice A m c))
    (HO : d.R e W base (fun _ => True) v xs) (HR : d.C W A m ys) (hKM : ∀ x cs, d.K W x cs → d.M W base (fun _ => False) x cs)
    (HB : Below base w0 W) (hbase : base ≤ W.heap.size) (hl : (xs.length + m) * bytes ≤ 140737488355328)
    (h : ∀ v1 w1, d.R e w1 base (fun _ => True) v1 (xs ++ ys) → Below base w0 w1 → W.grownBy w1 v.ownBlock → K v1 w1) : ST P Q N env W o K := by
  intro a ha Kc hK
  have h0 : Region.wanted { o with guard := none } (yielded #[] a.tmps) = true := rfl
  have := Kd.R_append_rows_step (P := P) (ops := #[]) (o := { o with guard := none }) (a := a) (Q := Q) (Kc := Kc) d base h0 s x t e z bytes ho ht hinfo hz hs0 hb0 v xs ys A m c (fun _ => True) (fun _ => False) (ha.eval hs) (ha.eval hx) HO HR hKM (fun _ hk => hk.elim) (fun _ _ => trivial) HB hbase hl (fun v1 w1 h1 h2 h3 _ => hK _ _ (h v1 w1 h1 h2 h3))
  rw [if_pos h0] at this
  exact this
theorem setCells_mid {b : Nat} {t : TypeId} : ∀ (vs pre old post : List Value) (w : World), w.heap[b]? = some (.cells (pre ++ old ++ post).toArray t (0, 0)) → old.length = vs.length →
    (w.setCells b pre.length vs).heap[b]? = some (.cells (pre ++ vs ++ post).toArray t (0, 0)) ∧ w.grownBy (w.setCells b pre.length vs) (some b)
  | [], pre, old, post, w, h, hl => by
    obtain rfl : old = [] := List.eq_nil_of_length_eq_zero hl
    exact ⟨h, World.grownBy.refl _ _⟩
  | v :: vs, pre, [], post, w, h, hl => by simp at hl
  | v :: vs, pre, o :: old, post, w, h, hl => by
    have h1 : (w.setCell ⟨b, pre.length, none⟩ v).heap[b]? = some (.cells ((pre ++ [v]) ++ old ++ post).toArray t (0, 0)) := by
      rw [blk_set h]
      congr 1
      simp
    have h2 := setCells_mid vs (pre ++ [v]) old post _ h1 (by simpa using hl)
    rw [List.length_append, List.length_singleton] at h2
    refine ⟨?_, (gb_set (World.grownBy.refl w _) (.inr rfl) v).trans h2.2⟩
    have := h2.1
    simp only [List.append_assoc, List.singleton_append] at this ⊢
    exact this
/-- A part of a variable of ours is written. -/
theorem ST.storeS {ty : TypeId} {x y : Operand} {b off : Nat} {cells : List Value} {all all' : List Value} {t : TypeId} (ho : o.op = .store ty x y) (hx : Ev env x (.pointer (some ⟨b, off, none⟩))) (hy : Ev env y (.agg cells.toArray))
    (hb : w.heap[b]? = some (.cells all.toArray t (0, 0))) (hs : Nat.ble (off + cells.length) all.length = true) (hi : (P.info? ty).map (·.size) = some cells.length) (h1 : cells.toArray.all (·.oneCell') = true) (hc : all.take off ++ cells ++ all.drop (off + cells.length) = all')
    (h : ∀ w1, w1.heap[b]? = some (.cells all'.toArray t (0, 0)) → w.grownBy w1 (some b) → K undef w1) : ST P Q N env w o K := by
  intro a ha Kc hK
  have hs' : off + cells.length ≤ all.length := by simpa [Nat.ble_eq] using hs
  have hsplit : all = all.take off ++ (all.drop off).take cells.length ++ all.drop (off + cells.length) := by
    rw [List.append_assoc, ← List.drop_drop, List.take_append_drop, List.take_append_drop]
  have hk := setCells_mid (b := b) (t := t) cells (all.take off) ((all.drop off).take cells.length) (all.drop (off + cells.length)) w (by rw [← hsplit]; exact hb) (by simp; omega)
  have hlen : (all.take off).length = off := by simp; omega
  rw [hlen, hc] at hk
  refine wp_store_mid (P := P) ty x y ho b off cells.toArray (ha.eval hx) (ha.eval hy) ?_ (by simpa using hi) h1 (hK undef _ (h _ (by simpa using hk.1) (by simpa using hk.2)))
  intro j hj
  have hj' : j < cells.length := by simpa using hj
  constructor
  · rw [blk_cell hb, Array.getElem?_eq_getElem (by simp; omega)]
    rfl
  · exact blk_frozen hb _
theorem Runs.min4 {x y z u : Operand} {ts : Array TypeId} {k : IntKind} {a1 a2 a3 a4 r : Int} (ho : o.op = .call { callee := .builtin .min, args := #[x, y, z, u], argTypes := ts }) (hx : Ev env x (.int k a1)) (hy : Ev env y (.int k a2)) (hz : Ev env z (.int k a3)) (hu : Ev env u (.int k a4)) (hr : mn (mn (mn a1 a2) a3) a4 = r) : Runs P N env o w (.int k r) := fun a w' ha hw => by
  have e1 := ha.eval hx
  have e2 := ha.eval hy
  have e3 := ha.eval hz
  have e4 := ha.eval hu
  generalize a.eval = ρ at e1 e2 e3 e4 ⊢
  subst hr
  unfold execOp; rw [ho]
  simp [go_sem, e1, e2, e3, e4, min_four, min2_int, mn]
  first | rfl | (congr 1)
theorem Runs.max4 {x y z u : Operand} {ts : Array TypeId} {k : IntKind} {a1 a2 a3 a4 r : Int} (ho : o.op = .call { callee := .builtin .max, args := #[x, y, z, u], argTypes := ts }) (hx : Ev env x (.int k a1)) (hy : Ev env y (.int k a2)) (hz : Ev env z (.int k a3)) (hu : Ev env u (.int k a4)) (hr : mx (mx (mx a1 a2) a3) a4 = r) : Runs P N env o w (.int k r) := fun a w' ha hw => by
  have e1 := ha.eval hx
  have e2 := ha.eval hy
  have e3 := ha.eval hz
  have e4 := ha.eval hu
  generalize a.eval = ρ at e1 e2 e3 e4 ⊢
  subst hr
  unfold execOp; rw [ho]
  simp [go_sem, e1, e2, e3, e4, max_four, max2_int, mx]
  first | rfl | (congr 1)
end
end Go.Proofs.Ytbajpjnloikpdaa.E
