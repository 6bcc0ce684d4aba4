/- The engine for great frames: operations that make and write memory, calls, and how a function is entered. -/
import Derived.Test.YtbajpjnloikpdaaE0
import Derived.Test.YtbajpjnloikpdaaZ2
namespace Go.Proofs.Ytbajpjnloikpdaa.E
open Go.RowKit Go.Proofs.YtbajpjnloikpdaaW.PrintWords Go.Proofs.YtbajpjnloikpdaaW.PrintMore
open Go.Proofs.Ytbajpjnloikpdaa.T
set_option linter.unusedVariables false
def argEnv : Nat → List Value → Env
  | _, [] => []
  | k, v :: r => (k, v) :: argEnv (k + 1) r
theorem look_argEnv : ∀ (l : List Value) (k n : Nat) (v : Value), look (argEnv k l) n = some v → k ≤ n ∧ l[n - k]? = some v
  | [], k, n, v, h => by simp [argEnv, look_nil] at h
  | u :: r, k, n, v, h => by
    unfold argEnv at h
    rw [look_cons] at h
    by_cases hk : k = n
    · subst hk
      simp only [Nat.beq_refl, cond_true, Option.some.injEq] at h
      subst h
      exact ⟨Nat.le_refl _, by simp⟩
    · have : Nat.beq k n = false := by
        rw [← Bool.not_eq_true, Nat.beq_eq]
        exact hk
      rw [this] at h
      simp only [cond_false] at h
      obtain ⟨h1, h2⟩ := look_argEnv r (k + 1) n v h
      refine ⟨by omega, ?_⟩
      rw [show n - k = (n - (k + 1)) + 1 by omega]
      simpa using h2
section
variable {P : Program} {ops : Array Oper} {Q : Exit → Act → World → Prop} {N : Nat} {w : World} {rest : List Oper} {env : Env} {o : Oper}
theorem enter {f : FuncId} {fn : Func} {c : Code} {args : List Value} {R : Ending → World → Prop} (hf : P.funcs[f]? = some fn) (hb : fn.body = some c) (hn : fn.ntmps = N) (hl : args.length ≤ N) (h : CG P c (bodyPost P fn R) N (argEnv 0 args) w) : Calls P f args.toArray w R := by
  refine calls_of_wp hf hb (h _ ⟨?_, rfl, ?_⟩)
  · simp [hn]; omega
  · intro n v hv
    obtain ⟨_, h2⟩ := look_argEnv args 0 n v hv
    have hlt := (List.getElem?_eq_some_iff.1 h2).1
    simp only [Nat.sub_zero] at h2 hlt
    show (args.toArray ++ Array.replicate _ undef)[n]? = some v
    rw [Array.getElem?_append_left (by simpa using hlt)]
    simpa using h2
/-- A whole struct is read. -/
theorem Runs.loads {t : TypeId} {x : Operand} {p : Addr} {cs : List Value} {d : TypeDesc} (ho : o.op = .load t x) (hx : Ev env x (.pointer (some p))) (hu : P.underlying t = some d) (hd : d.isRow = true) (hi : (P.info? t).map (·.size) = some cs.length) (hc : ∀ j v, cs[j]? = some v → w.cell? (p.add j) = some v) : Runs P N env o w (.agg cs.toArray) := fun a w' ha hw => by
  have hl : (loadCells p cs.length).run P w' = .ok cs.toArray w' := run_loadCells_list (P := P) w' p cs (fun j v hv => (cell_heap hw _).trans (hc j v hv))
  unfold execOp; rw [ho]; simp only []; rw [ha.eval hx]
  cases hq : P.info? t with
  | none => simp [hq] at hi
  | some i =>
    have hs : i.size = cs.length := by simpa [hq] using hi
    have hagg : (isAgg t).run P w' = .ok true w' := by
      unfold isAgg
      rw [Sem.run_bind, run_underlying hu w']
      cases d <;> simp_all
    simp [Instr.loadAt, Instr.sureAddr, loadVar, Sem.run_bind, hagg, sizeOf, typeInfo, hq, hs, hl]
theorem GL.event {n : Nat} {v : Value} {w1 : World} (hd : o.dst = some n) (hn : Nat.blt n N = true) (hw : want ops env o = some true) (hr : ∀ a, Holds N a env → (execOp a.eval o).run P w = .ok (.value v) w1) (h : GL P ops Q N w1 rest ((n, v) :: env)) : GL P ops Q N w (o :: rest) env := by
  intro a ha
  refine BigFrame.wpList_want (wanted_of ha hw) fun K hK => ?_
  unfold Oper.wp
  rw [hr a ha]
  show K (a.put o.dst v) w1
  rw [hd]
  exact hK _ _ (h _ (ha.put v (by simpa [Nat.blt_eq] using hn)))
/-- A new variable that holds a value. -/
theorem GL.box {n : Nat} {t : TypeId} {x : Operand} {cs : Array Value} (hd : o.dst = some n) (hn : Nat.blt n N = true) (hw : want ops env o = some true) (ho : o.op = .box t x) (hx : Ev env x (.agg cs))
    (h : ∀ g w1, g = w.heap.size → w1.heap[g]? = some (.cells cs t (0, 0)) → Below w.heap.size w w1 → GL P ops Q N w1 rest ((n, .pointer (some ⟨g, 0, none⟩)) :: env)) : GL P ops Q N w (o :: rest) env := by
  refine GL.event hd hn hw (v := .pointer (some ⟨w.heap.size, 0, none⟩)) (w1 := w.alloc (.cells cs t (0, 0))) (fun a ha => ?_) (h _ _ rfl (blk_new w _) (below_alloc (Below.refl _ _) _))
  unfold execOp; rw [ho]; simp only []; rw [ha.eval hx]
  simp [go_sem]
/-- A new variable that holds its type's zero. -/
theorem GL.alloc {n : Nat} {t : TypeId} {cs : Array Value} (hd : o.dst = some n) (hn : Nat.blt n N = true) (hw : want ops env o = some true) (ho : o.op = .alloc t) (hz : (P.info? t).map (·.zero) = some (some (.agg cs)))
    (h : ∀ g w1, g = w.heap.size → w1.heap[g]? = some (.cells cs t (0, 0)) → Below w.heap.size w w1 → GL P ops Q N w1 rest ((n, .pointer (some ⟨g, 0, none⟩)) :: env)) : GL P ops Q N w (o :: rest) env := by
  refine GL.event hd hn hw (v := .pointer (some ⟨w.heap.size, 0, none⟩)) (w1 := w.alloc (.cells cs t (0, 0))) (fun a ha => ?_) (h _ _ rfl (blk_new w _) (below_alloc (Below.refl _ _) _))
  cases hq : P.info? t with
  | none => simp [hq] at hz
  | some i =>
    have hi : i.zero = some (.agg cs) := by simpa [hq] using hz
    unfold execOp; rw [ho]; simp only []
    simp [go_sem, zeroValue, typeInfo, hq, hi]
/-- A whole struct is written into a variable of its own. -/
theorem GL.store_whole {ty : TypeId} {x y : Operand} {b : Nat} {cells old : Array Value} {t : TypeId} (hd : o.dst = none) (hg : o.guard = none) (ho : o.op = .store ty x y) (hx : Ev env x (.pointer (some ⟨b, 0, none⟩))) (hy : Ev env y (.agg cells))
    (hb : w.heap[b]? = some (.cells old t (0, 0))) (hs : old.size = cells.size) (hi : (P.info? ty).map (·.size) = some cells.size) (h1 : cells.all (·.oneCell') = true)
    (h : ∀ w1, w1.heap[b]? = some (.cells cells t (0, 0)) → w.grownBy w1 (some b) → GL P ops Q N w1 rest env) : GL P ops Q N w (o :: rest) env := by
  intro a ha
  refine T.store_whole hg ty x y ho b cells old t (ha.eval hx) (ha.eval hy) hb hs hi h1 fun w1 h2 h3 => ?_
  rw [hd]
  exact h w1 h2 h3 a ha
/-- One cell is written. -/
theorem GL.store {ty : TypeId} {x y : Operand} {b i : Nat} {v : Value} {k : IntKind} {n : Int} {cs : Array Value} {t : TypeId} (hd : o.dst = none) (hg : want ops env o = some true) (ho : o.op = .store ty x y) (hz : Sized P ty) (hz1 : P.cellsOf ty = 1) (hx : Ev env x (.pointer (some ⟨b, i, none⟩))) (hy : Ev env y (.int k n))
    (hb : w.heap[b]? = some (.cells cs t (0, 0))) (hi : i < cs.size) (h : GL P ops Q N (w.setCell ⟨b, i, none⟩ (.int k n)) rest env) : GL P ops Q N w (o :: rest) env := by
  intro a ha
  have h1 : w.cell? ⟨b, i, none⟩ = some cs[i] := by rw [blk_cell hb, Array.getElem?_eq_getElem hi]
  have h2 : w.frozen? ⟨b, i, none⟩ = false := blk_frozen hb i
  refine BigFrame.wpList_want (wanted_of ha hg) fun K hK => ?_
  have hr : (execOp a.eval o).run P w = .ok .skip (w.setCell ⟨b, i, none⟩ (.int k n)) := by
    unfold execOp; rw [ho]; simp only []; rw [ha.eval hx, ha.eval hy]
    obtain ⟨inf, q1, q2⟩ := hz
    simp [go_sem, run_sizeOf w q1, hz1, h1, h2]
  unfold Oper.wp
  rw [hr]
  show K (a.put o.dst undef) _
  rw [hd]
  exact hK _ _ (h a ha)
def EvL (env : Env) : List Operand → List Value → Prop
  | [], [] => True
  | x :: xs, v :: vs => Ev env x v ∧ EvL env xs vs
  | _, _ => False
theorem evn {env : Env} : EvL env [] [] := trivial
theorem evc {env : Env} {x : Operand} {v : Value} {xs : List Operand} {vs : List Value} (h : Ev env x v) (k : EvL env xs vs) : EvL env (x :: xs) (v :: vs) := ⟨h, k⟩
theorem subn {env : Env} : Sub [] env := trivial
theorem subc {env r : Env} {k : Nat} {v : Value} (h : look env k = some v) (hr : Sub r env) : Sub ((k, v) :: r) env := ⟨h, hr⟩
theorem Holds.evalL {a : Act} (h : Holds N a env) : ∀ {xs : List Operand} {vs : List Value}, EvL env xs vs → xs.map a.eval = vs
  | [], [], _ => rfl
  | x :: xs, v :: vs, e => by rw [List.map_cons, h.eval e.1, Holds.evalL h e.2]
/-- A call of a Go function. -/
theorem GL.call {n : Nat} {f : FuncId} {xs : List Operand} {ts : Array TypeId} {vs : List Value} (hd : o.dst = some n) (hn : Nat.blt n N = true) (hw : want ops env o = some true)
    (ho : o.op = .call { callee := .value (.func f), args := xs.toArray, argTypes := ts }) (hf : ∀ args W, (callFunc f args).run P W = .ok (.enter f args) W) (hx : EvL env xs vs)
    (hc : Calls P f vs.toArray w (fun e w' => ∃ v, e = .returned v ∧ GL P ops Q N w' rest ((n, v) :: env))) : GL P ops Q N w (o :: rest) env := by
  intro a ha
  refine BigFrame.wpList_want (wanted_of ha hw) fun K hK => ?_
  have hr : (execOp a.eval o).run P w = .ok (.enter f vs.toArray) w := by
    have e := ha.evalL hx
    have ef : a.eval (.func f) = .func (.func f) #[] #[] := rfl
    generalize a.eval = ρ at e ef ⊢
    unfold execOp; rw [ho]
    simp [go_sem, e, ef, hf]
  unfold Oper.wp
  rw [hr]
  refine hc.mono ?_
  rintro e w' ⟨v, rfl, h⟩
  show K (a.put o.dst v) w'
  rw [hd]
  exact hK _ _ (h _ (ha.put v (by simpa [Nat.blt_eq] using hn)))
end
end Go.Proofs.Ytbajpjnloikpdaa.E
