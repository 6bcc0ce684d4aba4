/- The engine for great frames: comparisons that part the way; what a region that draws leaves as it was. -/
import Derived.Test.YtbajpjnloikpdaaE4
namespace Go.Proofs.Ytbajpjnloikpdaa.E
open Go.RowKit Go.Proofs.YtbajpjnloikpdaaW.PrintWords Go.Proofs.YtbajpjnloikpdaaW.PrintMore
open Go.Proofs.Ytbajpjnloikpdaa.T
set_option linter.unusedVariables false
set_option linter.unusedSimpArgs false
section
variable {P : Program} {ops : Array Oper} {Q : Exit → Act → World → Prop} {N : Nat} {w : World} {rest : List Oper} {env : Env} {o : Oper} {S : World → Prop} {fuel : Nat} {listed : Array Bool}
theorem GL.cmp {p : Prop} [Decidable p] {n : Nat} (hd : o.dst = some n) (hn : Nat.blt n N = true) (hw : want ops env o = some true) (hr : ∀ b, decide p = b → Runs P N env o w (.bool b))
    (ht : p → GL P ops Q N w rest ((n, .bool true) :: env)) (hf : ¬ p → GL P ops Q N w rest ((n, .bool false) :: env)) : GL P ops Q N w (o :: rest) env := by
  by_cases h : p
  · exact GL.run hd hn hw (hr _ (decide_eq_true h)) (ht h)
  · exact GL.run hd hn hw (hr _ (decide_eq_false h)) (hf h)
theorem GL.cmpn {p : Prop} [Decidable p] {n : Nat} (hd : o.dst = some n) (hn : Nat.blt n N = true) (hw : want ops env o = some true) (hr : ∀ b, (!decide p) = b → Runs P N env o w (.bool b))
    (ht : ¬ p → GL P ops Q N w rest ((n, .bool true) :: env)) (hf : p → GL P ops Q N w rest ((n, .bool false) :: env)) : GL P ops Q N w (o :: rest) env := by
  by_cases h : p
  · exact GL.run hd hn hw (hr _ (by simp [h])) (hf h)
  · exact GL.run hd hn hw (hr _ (by simp [h])) (ht h)
theorem GQ.cmp {p : Prop} [Decidable p] {n : Nat} (hd : o.dst = some n) (hn : Nat.blt n N = true) (hw : want ops env o = some true) (hr : ∀ b, decide p = b → Runs P N env o w (.bool b))
    (ht : p → GQ P ops Q N w rest ((n, .bool true) :: env)) (hf : ¬ p → GQ P ops Q N w rest ((n, .bool false) :: env)) : GQ P ops Q N w (o :: rest) env := by
  by_cases h : p
  · exact GQ.run hd hn hw (hr _ (decide_eq_true h)) (ht h)
  · exact GQ.run hd hn hw (hr _ (decide_eq_false h)) (hf h)
theorem GQ.cmpn {p : Prop} [Decidable p] {n : Nat} (hd : o.dst = some n) (hn : Nat.blt n N = true) (hw : want ops env o = some true) (hr : ∀ b, (!decide p) = b → Runs P N env o w (.bool b))
    (ht : ¬ p → GQ P ops Q N w rest ((n, .bool true) :: env)) (hf : p → GQ P ops Q N w rest ((n, .bool false) :: env)) : GQ P ops Q N w (o :: rest) env := by
  by_cases h : p
  · exact GQ.run hd hn hw (hr _ (by simp [h])) (hf h)
  · exact GQ.run hd hn hw (hr _ (by simp [h])) (ht h)
theorem GH.tk {i n : Nat} {v : Value} (hi : ops[i]? = some o) (hs : Region.noSelect ops = true) (hf : Region.free .any ops listed i = true) (hr : (Region.ready .any ops listed).contains i = true) (hd : o.dst = some n) (hn : Nat.blt n N = true)
    (hw : want ops env o = some true) (hQ : Calm Q) (hy : ∀ w', S w' → Runs P N env o w' v) (h : GH P ops Q N S fuel (listed.setIfInBounds i true) ((n, v) :: env) w) : GH P ops Q N S (fuel + 1) listed env w := GH.take hi hs hf hr hQ hd hn hw hy h
theorem GH.cmp {p : Prop} [Decidable p] {i n : Nat} (hi : ops[i]? = some o) (hs : Region.noSelect ops = true) (hf : Region.free .any ops listed i = true) (hr : (Region.ready .any ops listed).contains i = true) (hQ : Calm Q) (hd : o.dst = some n) (hn : Nat.blt n N = true)
    (hw : want ops env o = some true) (hy : ∀ b, decide p = b → ∀ w', S w' → Runs P N env o w' (.bool b)) (ht : p → GH P ops Q N S fuel (listed.setIfInBounds i true) ((n, .bool true) :: env) w) (hff : ¬ p → GH P ops Q N S fuel (listed.setIfInBounds i true) ((n, .bool false) :: env) w) : GH P ops Q N S (fuel + 1) listed env w := by
  by_cases h : p
  · exact GH.take hi hs hf hr hQ hd hn hw (hy _ (decide_eq_true h)) (ht h)
  · exact GH.take hi hs hf hr hQ hd hn hw (hy _ (decide_eq_false h)) (hff h)
theorem GH.cmpn {p : Prop} [Decidable p] {i n : Nat} (hi : ops[i]? = some o) (hs : Region.noSelect ops = true) (hf : Region.free .any ops listed i = true) (hr : (Region.ready .any ops listed).contains i = true) (hQ : Calm Q) (hd : o.dst = some n) (hn : Nat.blt n N = true)
    (hw : want ops env o = some true) (hy : ∀ b, (!decide p) = b → ∀ w', S w' → Runs P N env o w' (.bool b)) (ht : ¬ p → GH P ops Q N S fuel (listed.setIfInBounds i true) ((n, .bool true) :: env) w) (hff : p → GH P ops Q N S fuel (listed.setIfInBounds i true) ((n, .bool false) :: env) w) : GH P ops Q N S (fuel + 1) listed env w := by
  by_cases h : p
  · exact GH.take hi hs hf hr hQ hd hn hw (hy _ (by simp [h])) (hff h)
  · exact GH.take hi hs hf hr hQ hd hn hw (hy _ (by simp [h])) (ht h)
theorem nes {a b : Nat} (h : a ≠ b) : some a ≠ some b := fun e => h (Option.some.inj e)
theorem nen {a : Nat} : some a ≠ none := fun e => nomatch e
theorem gbD {row : Option Nat} : w.grownBy w.drew row := ⟨rfl, rfl, rfl, Nat.le_refl _, fun _ _ _ => rfl⟩
theorem gbB {w1 : World} {row : Option Nat} (h : Below w.heap.size w w1) : w.grownBy w1 row := ⟨h.os, h.tape, h.output, h.size, fun k hk _ => h.block k hk⟩
theorem belowG {w1 : World} (h : w.grownBy w1 none) : Below w.heap.size w w1 := ⟨h.os, h.tape, h.output, h.size, fun k hk => h.block k hk (fun e => nomatch e)⟩
/-- What is there, behind a world that left all of this base as it was. -/
theorem below_own {w0 w1 : World} {g : Nat} (L : Below w0.heap.size w0 w) (hg : w0.heap.size ≤ g) (h : w.grownBy w1 (some g)) : Below w0.heap.size w0 w1 :=
  pw_below_grown L (some g) L.size h (by rintro k ⟨⟩; exact hg)
theorem CG.heldH {id : Nat} (row : Option Nat) (hm : P.follows .mixedOrders = true) (h : ∀ w1, Below w.heap.size w w1 → w1.grownBy w1 row → GH P ops Q N (fun W => w1.grownBy W row) ops.size (Array.replicate ops.size false) env w1) : CG P (.region id ops true) Q N env w :=
  CG.held _ hm (World.grownBy.refl _ _) (h _ (below_drew (Below.refl _ _)) (World.grownBy.refl _ _))
/-- The same, and one cell of the row that may change stays. -/
theorem CG.heldK {id : Nat} (row : Option Nat) (p : Addr) (hm : P.follows .mixedOrders = true) (h : ∀ w1, Below w.heap.size w w1 → (w1.grownBy w1 row ∧ w1.cell? p = w1.cell? p) → GH P ops Q N (fun W => w1.grownBy W row ∧ W.cell? p = w1.cell? p) ops.size (Array.replicate ops.size false) env w1) : CG P (.region id ops true) Q N env w :=
  CG.held _ hm ⟨World.grownBy.refl _ _, rfl⟩ (h _ (below_drew (Below.refl _ _)) ⟨World.grownBy.refl _ _, rfl⟩)
theorem kpB {w1 w2 : World} {g i : Nat} {cs : Array Value} {t : TypeId} {row : Option Nat} (hs : w.grownBy w1 row ∧ w1.cell? ⟨g, i, none⟩ = w.cell? ⟨g, i, none⟩) (hb : w1.heap[g]? = some (.cells cs t (0, 0))) (l : Below w1.heap.size w1 w2) : w.grownBy w2 row ∧ w2.cell? ⟨g, i, none⟩ = w.cell? ⟨g, i, none⟩ :=
  ⟨hs.1.trans (gbB l), by rw [blk_cell (blk_below hb l), ← hs.2, blk_cell hb]⟩
theorem kpS {w1 w2 : World} {g i : Nat} {cs cs' : Array Value} {t t' : TypeId} {row : Option Nat} (hs : w.grownBy w1 row ∧ w1.cell? ⟨g, i, none⟩ = w.cell? ⟨g, i, none⟩) (l : w1.grownBy w2 row) (hb : w1.heap[g]? = some (.cells cs t (0, 0))) (hc : w2.heap[g]? = some (.cells cs' t' (0, 0))) (e : cs'[i]? = cs[i]?) : w.grownBy w2 row ∧ w2.cell? ⟨g, i, none⟩ = w.cell? ⟨g, i, none⟩ :=
  ⟨hs.1.trans l, by rw [blk_cell hc, e, ← hs.2, blk_cell hb]⟩
/-- The value at a place of a list. -/
def nth : List Value → Nat → Option Value
  | [], _ => none
  | x :: _, 0 => some x
  | _ :: r, n + 1 => nth r n
theorem nth_is : ∀ (l : List Value) (i : Nat), nth l i = l[i]?
  | [], i => by simp [nth]
  | x :: r, 0 => rfl
  | x :: r, i + 1 => by simpa [nth] using nth_is r i
theorem blkc {b i : Nat} {cs : List Value} {t : TypeId} {v : Value} (hb : w.heap[b]? = some (.cells cs.toArray t (0, 0))) (hv : nth cs i = some v) : w.cell? ⟨b, i, none⟩ = some v := by
  rw [nth_is] at hv
  rw [blk_cell hb]
  simpa using hv
/-- A part of a variable. -/
theorem blks {g : Nat} {t : TypeId} {all cs : List Value} (hb : w.heap[g]? = some (.cells all.toArray t (0, 0))) (off : Nat) (hs : (all.drop off).take cs.length = cs) (j : Nat) (v : Value) (hv : cs[j]? = some v) : w.cell? ((onA ⟨g, 0, none⟩ off).add j) = some v := by
  have h1 : onA ⟨g, 0, none⟩ off = ⟨g, off, none⟩ := by cases off <;> simp [onA]
  rw [h1, Addr.add_mid, blk_cell hb]
  rw [← hs, List.getElem?_take] at hv
  split at hv
  · rw [List.getElem?_drop] at hv
    simpa using hv
  · simp at hv
theorem keeps {w1 : World} {row : Option Nat} {a : Addr} {v : Value} (hg : w.grownBy w1 row) (h : w.cell? a = some v) (hne : some a.block ≠ row) : w1.cell? a = some v := cell_grown hg h hne
theorem cellsB {w1 : World} {p : Addr} {cs : List Value} (L : Below w.heap.size w w1) (h : ∀ j v, cs[j]? = some v → w.cell? (p.add j) = some v) (j : Nat) (v : Value) (hv : cs[j]? = some v) : w1.cell? (p.add j) = some v := pw_cell_below L (h j v hv)
theorem GQ.doneB (h : ∀ w1, Below w.heap.size w w1 → QG Q .normal N env w1) : GQ P ops Q N w [] env := GQ.done fun m => h _ (pw_below_drewN (Below.refl _ _) m)
/-- A loop with two ghosts. -/
theorem CG.loop2 {c : Code} {γ δ : Type} (E : γ → δ → Env) (R : γ → δ → World → Prop) (m : γ → δ → Nat) (g0 : γ) (d0 : δ) (h0 : Sub (E g0 d0) env) (hR : R g0 d0 w)
    (round : ∀ g d w', R g d w' → CG P c (Exit.then (fun a'' w'' => ∃ g' d', Holds N a'' (E g' d') ∧ R g' d' w'' ∧ m g' d' < m g d) Q) N (E g d) w') : CG P (.loop c) Q N env w := by
  refine CG.loop (γ := γ × δ) (fun p => E p.1 p.2) (fun p => R p.1 p.2) (fun p => m p.1 p.2) (g0, d0) h0 hR fun p w' h a ha => ?_
  refine wp_mono (round p.1 p.2 w' h a ha) ?_
  intro e a' w1 hq
  cases e <;> first | exact hq | (obtain ⟨g', d', h1⟩ := hq; exact ⟨(g', d'), h1⟩)
theorem QG.round2 {γ δ : Type} {E : γ → δ → Env} {R : γ → δ → World → Prop} {m : γ → δ → Nat} {g : γ} {d : δ} (g' : γ) (d' : δ) (h0 : Sub (E g' d') env) (hR : R g' d' w) (hm : m g' d' < m g d) :
    QG (Exit.then (fun a'' w'' => ∃ g' d', Holds N a'' (E g' d') ∧ R g' d' w'' ∧ m g' d' < m g d) Q) .normal N env w := fun a ha => ⟨g', d', ha.sub h0, hR, hm⟩
theorem ne_f {p : Prop} [Decidable p] (h : p) : (!decide p) = false := by simp [h]
theorem ne_t {p : Prop} [Decidable p] (h : ¬ p) : (!decide p) = true := by simp [h]
theorem gb_own {w0 w1 : World} {row : Option Nat} {g : Nat} (h : w0.grownBy w row) (hg : w0.heap.size ≤ g) (k : w.grownBy w1 (some g)) : w0.grownBy w1 row :=
  ⟨k.os.trans h.os, k.tape.trans h.tape, k.output.trans h.output, Nat.le_trans h.size k.size, fun i hi hr => (k.block i (Nat.lt_of_lt_of_le hi h.size) (fun e => by have := Option.some.inj e; omega)).trans (h.block i hi hr)⟩
/-- The beginning of a slice. -/
theorem Runs.sliceTo {t e : TypeId} {x y : Operand} {p : Option Addr} {n c i : Nat} {k : IntKind} (ho : o.op = .slice t x none (some y) none) (hx : Ev env x (.slice p n c)) (hy : Ev env y (.int k i)) (hu : P.underlying t = some (.slice e)) (hz : Sized P e) (hi : (i : Int) ≤ c) : Runs P N env o w (.slice p i c) := fun a w' ha hw => by
  obtain ⟨inf, h1, h2⟩ := hz
  have e1 := ha.eval hx
  have e2 := ha.eval hy
  generalize a.eval = ρ at e1 e2 ⊢
  unfold execOp; rw [ho]
  have h3 : i ≤ c := by omega
  cases p <;> simp [go_sem, e1, e2, Instr.sliceAt, Instr.slice, Instr.sliceBounds, run_underlying hu, run_sizeOf w' h1, asIntOf, h3, Sem.run_bind]
/-- A struct, and another value, are returned. -/
theorem QG.result_ct {fn : Func} {R : Ending → World → Prop} {p u : Tmp} {ty t : TypeId} {g : Nat} {cs : Array Value} {d : TypeDesc} {x : Value} (hf : fn.results = #[.cell p ty, .tmp u]) (hp : look env p = some (.pointer (some ⟨g, 0, none⟩))) (hg : w.heap[g]? = some (.cells cs t (0, 0)))
    (hu : P.underlying ty = some d) (hd : (match d with | .struct _ | .array _ _ => true | _ => false) = true) (hi : (P.info? ty).map (·.size) = some cs.size) (hx : look env u = some x) (h : R (.returned (.tuple #[.agg cs, x])) w) : QG (bodyPost P fn R) .ret N env w := by
  intro a ha
  refine ⟨ha.defers, .tuple #[.agg cs, x], ?_, h⟩
  have e1 : a.tmps.getD p undef = .pointer (some ⟨g, 0, none⟩) := ha.eval (x := .tmp p) hp
  have e2 : a.tmps.getD u undef = x := ha.eval (x := .tmp u) hx
  rw [results_ct hf a.tmps w g t cs (0, 0) d e1 hg hu hd hi, e2]
theorem QG.result_c {fn : Func} {R : Ending → World → Prop} {p : Tmp} {ty t : TypeId} {g : Nat} {cs : Array Value} {d : TypeDesc} (hf : fn.results = #[.cell p ty]) (hp : look env p = some (.pointer (some ⟨g, 0, none⟩))) (hg : w.heap[g]? = some (.cells cs t (0, 0)))
    (hu : P.underlying ty = some d) (hd : (match d with | .struct _ | .array _ _ => true | _ => false) = true) (hi : (P.info? ty).map (·.size) = some cs.size) (h : R (.returned (.agg cs)) w) : QG (bodyPost P fn R) .ret N env w := by
  intro a ha
  refine ⟨ha.defers, .agg cs, ?_, h⟩
  have e1 : a.tmps.getD p undef = .pointer (some ⟨g, 0, none⟩) := ha.eval (x := .tmp p) hp
  have hp' : a.tmps[p]?.getD undef = .pointer (some ⟨g, 0, none⟩) := by simpa using e1
  simp [results, hf, hp', asAddr, run_loadVar_row w g t ty cs (0, 0) d hg hu hd hi]
theorem Runs.neqv {t u : TypeId} {x y : Operand} {vx vy : Value} {b r : Bool} (ho : o.op = .binOp .neq t x y u) (hx : Ev env x vx) (hy : Ev env y vy) (hs : binOp .neq t vx vy = (do pure (.bool (!(← Op.equal t vx vy))))) (hg : ∀ x y W, (eqGuard .neq t x y vx vy).run P W = .ok () W) (he : ∀ W, (Op.equal t vx vy).run P W = .ok b W) (hr : (!b) = r) : Runs P N env o w (.bool r) := fun a w' ha hw => by
  unfold execOp; rw [ho]; simp only []; rw [ha.eval hx, ha.eval hy, hs]
  simp only [bind_assoc, pure_bind]
  rw [Sem.run_bind, hg _ _ w']
  show Sem.run P _ w' = _
  rw [Sem.run_bind, he w']
  subst hr
  rfl
theorem Runs.eqlv {t u : TypeId} {x y : Operand} {vx vy : Value} {b : Bool} (ho : o.op = .binOp .eql t x y u) (hx : Ev env x vx) (hy : Ev env y vy) (hs : binOp .eql t vx vy = (do pure (.bool (← Op.equal t vx vy)))) (hg : ∀ x y W, (eqGuard .eql t x y vx vy).run P W = .ok () W) (he : ∀ W, (Op.equal t vx vy).run P W = .ok b W) : Runs P N env o w (.bool b) := fun a w' ha hw => by
  unfold execOp; rw [ho]; simp only []; rw [ha.eval hx, ha.eval hy, hs]
  simp only [bind_assoc, pure_bind]
  rw [Sem.run_bind, hg _ _ w']
  show Sem.run P _ w' = _
  rw [Sem.run_bind, he w']
  rfl
theorem Runs.indexAddrA {t e : TypeId} {x y : Operand} {A : Option Addr} {p : Addr} {n c : Nat} {k : IntKind} {i : Nat} {sz : Nat} {q : Addr} (ho : o.op = .indexAddr t x y) (hx : Ev env x (.slice A n c)) (hy : Ev env y (.int k i)) (hu : P.underlying t = some (.slice e)) (hz : Sized P e) (hs : P.cellsOf e = sz) (hl : (i : Int) < n) (hA : A = some p) (hq : p.add (i * sz) = q) : Runs P N env o w (.pointer (some q)) := by
  subst hA
  exact Runs.indexAddr ho hx hy hu hz hs hl hq
theorem Runs.load1 {t : TypeId} {x : Operand} {p : Addr} {d : TypeDesc} {v : Value} (ho : o.op = .load t x) (hx : Ev env x (.pointer (some p))) (hu : P.underlying t = some d) (hd : d.isRow = false) (hc : w.cell? p = some v) : Runs P N env o w v := fun a w' ha hw => by
  have hc' : w'.cell? p = some v := (cell_heap hw p).trans hc
  have hagg : (isAgg t).run P w' = .ok false w' := by
    unfold isAgg
    rw [Sem.run_bind, run_underlying hu w']
    cases d <;> simp_all
  unfold execOp; rw [ho]; simp only []; rw [ha.eval hx]
  simp [go_sem, hagg, hc']
theorem QG.result2 {fn : Func} {R : Ending → World → Prop} {t u : Tmp} {v x : Value} (hf : fn.results = #[.tmp t, .tmp u]) (hv : look env t = some v) (hx : look env u = some x) (h : R (.returned (.tuple #[v, x])) w) : QG (bodyPost P fn R) .ret N env w := by
  intro a ha
  refine ⟨ha.defers, .tuple #[v, x], ?_, h⟩
  rw [results_tmp2 hf]
  have e1 : a.tmps.getD t undef = v := ha.eval (x := .tmp t) (v := v) hv
  have e2 : a.tmps.getD u undef = x := ha.eval (x := .tmp u) (v := x) hx
  rw [e1, e2]
theorem QG.result3 {fn : Func} {R : Ending → World → Prop} {t u s : Tmp} {v x y : Value} (hf : fn.results = #[.tmp t, .tmp u, .tmp s]) (hv : look env t = some v) (hx : look env u = some x) (hy : look env s = some y) (h : R (.returned (.tuple #[v, x, y])) w) : QG (bodyPost P fn R) .ret N env w := by
  intro a ha
  refine ⟨ha.defers, .tuple #[v, x, y], ?_, h⟩
  rw [results_tmp3 hf]
  have e1 : a.tmps.getD t undef = v := ha.eval (x := .tmp t) (v := v) hv
  have e2 : a.tmps.getD u undef = x := ha.eval (x := .tmp u) (v := x) hx
  have e3 : a.tmps.getD s undef = y := ha.eval (x := .tmp s) (v := y) hy
  rw [e1, e2, e3]
end
end Go.Proofs.Ytbajpjnloikpdaa.E
