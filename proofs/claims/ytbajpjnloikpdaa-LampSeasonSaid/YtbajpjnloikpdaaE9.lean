/- The engine in the rounds of a range over a function, and in the function that yields. -/
import Derived.Test.YtbajpjnloikpdaaE8
import Derived.RangeFuncNested
import Derived.RangeFuncBound
import Derived.RangeFuncCalls
import Derived.RangeFuncLeaves
import Derived.OwnWalkIn
namespace Go.Proofs.Ytbajpjnloikpdaa.E
open Go.RowKit Go.Proofs.YtbajpjnloikpdaaW.PrintWords Go.Proofs.YtbajpjnloikpdaaW.PrintMore
open Go.Proofs.Ytbajpjnloikpdaa.T
set_option linter.unusedVariables false
set_option linter.unusedSimpArgs false
/-- A fence that lets everything by, in whatever round. -/
structure WF (F : Fence) : Prop where
  d : F.depth = none
  f : ∀ f, F.fn f
  a : F.alive = false
theorem WF.wide : WF Fence.wide := ⟨rfl, fun _ => trivial, rfl⟩
theorem WF.round {F : Fence} (h : WF F) (l : Nat) : WF (F.inRound l) := ⟨h.d, h.f, h.a⟩
theorem WF.plain {F : Fence} (h : WF F) : F.plain = Fence.wide := by
  obtain ⟨h1, h2, h3⟩ := h
  cases F
  simp only [Fence.plain, Fence.wide] at *
  subst h1 h3
  congr
  funext f
  exact propext ⟨fun _ => trivial, fun _ => h2 f⟩
theorem WF.calls {F : Fence} (h : WF F) {n : Nat} {P : Program} {f : FuncId} {args : Array Value} {w : World} {R : Ending → World → Prop} (hc : Calls P f args w R) : CallsIn F n P f args w R := by
  have h1 : CallsIn F.plain n P f args w R := by rw [h.plain]; exact callsIn_wide.2 hc
  exact h1
theorem WF.rows {F : Fence} (h : WF F) {n : Nat} {P : Program} {row : String} {args : Array Value} {w : World} {R : Value → World → Prop} (hr : Rows P row args w R) : RowsIn F n P row args w R := fun c cs _ => by
  obtain ⟨v, w', r, s⟩ := hr c cs
  refine ⟨v, w', r, ?_⟩
  rw [← fenced_plain, h.plain]
  exact stepsIn_wide.2 s
def GI (F : Fence) (k : Nat) (P : Program) (ops : Array Oper) (Q : Exit → Act → World → Prop) (N : Nat) (w : World) (rest : List Oper) (env : Env) : Prop := ∀ a, Holds N a env → wpListIn F k P ops Q rest a w
def CI (F : Fence) (k : Nat) (P : Program) (c : Code) (Q : Exit → Act → World → Prop) (N : Nat) (env : Env) (w : World) : Prop := ∀ a, Holds N a env → c.wpIn F k P Q a w
section
variable {F : Fence} {k : Nat} {P : Program} {ops : Array Oper} {Q : Exit → Act → World → Prop} {N : Nat} {w : World} {rest : List Oper} {env : Env} {o : Oper}
theorem wpListIn_want {a : Act} (hw : Region.wanted o (yielded ops a.tmps) = true) (h : ∀ K : Act → World → Prop, (∀ a w, wpListIn F k P ops Q rest a w → K a w) → o.wpIn F k P a w K Q) : wpListIn F k P ops Q (o :: rest) a w :=
  wpListIn_step fun K hK => by rw [if_pos hw]; exact h K hK
def noDefer : Op → Bool
  | .defer _ => false
  | _ => true
theorem semAt_any (ho : noDefer o.op = true) (ρ : Operand → Value) : o.semAt F.round ρ = execOp ρ o :=
  Oper.semAt_plain F ρ o fun c e => by rw [e] at ho; exact Bool.noConfusion ho
theorem GI.run {n : Nat} {v : Value} (hF : WF F) (hnd : noDefer o.op = true) (hd : o.dst = some n) (hn : Nat.blt n N = true) (hw : want ops env o = some true) (hr : Runs P N env o w v) (h : GI F k P ops Q N w rest ((n, v) :: env)) : GI F k P ops Q N w (o :: rest) env := by
  intro a ha
  refine wpListIn_want (wanted_of ha hw) fun K hK => ⟨fun f _ => hF.f f, ?_⟩
  rw [semAt_any hnd, hr a w ha rfl]
  show K (a.put o.dst v) w
  rw [hd]
  exact hK _ _ (h _ (ha.put v (by simpa [Nat.blt_eq] using hn)))
/-- An operation that makes, writes, or calls, in a round. -/
def SI (F : Fence) (k : Nat) (P : Program) (Q : Exit → Act → World → Prop) (N : Nat) (env : Env) (w : World) (o : Oper) (K : Value → World → Prop) : Prop :=
  ∀ a, Holds N a env → ∀ Kc : Act → World → Prop, (∀ v w1, K v w1 → Kc (a.put o.dst v) w1) → Oper.wpIn F k P o a w Kc Q
theorem GI.st {n : Nat} (hd : o.dst = some n) (hn : Nat.blt n N = true) (hw : want ops env o = some true) (h : SI F k P Q N env w o (fun v w1 => GI F k P ops Q N w1 rest ((n, v) :: env))) : GI F k P ops Q N w (o :: rest) env := by
  intro a ha
  refine wpListIn_want (wanted_of ha hw) fun Kc hK => h a ha Kc fun v w1 h1 => hK _ _ ?_
  rw [hd]
  exact h1 _ (ha.put v (by simpa [Nat.blt_eq] using hn))
theorem GI.sn (hd : o.dst = none) (hw : want ops env o = some true) (h : SI F k P Q N env w o (fun v w1 => GI F k P ops Q N w1 rest env)) : GI F k P ops Q N w (o :: rest) env := by
  intro a ha
  refine wpListIn_want (wanted_of ha hw) fun Kc hK => h a ha Kc fun v w1 h1 => hK _ _ ?_
  rw [hd]
  exact h1 _ ha
theorem GI.done (h : QG Q .normal N env w) : GI F k P ops Q N w [] env := fun a ha => h a ha
/-- What is told of an operation outside of rounds holds in them: one that yields no row. -/
theorem SI.of {K : Value → World → Prop} (hF : WF F) (hnd : noDefer o.op = true) (h : ST P Q N env w o K) : SI F k P Q N env w o K := by
  intro a ha Kc hK
  have h1 := h a ha Kc hK
  refine ⟨fun f _ => hF.f f, ?_⟩
  rw [semAt_any hnd]
  unfold Oper.wp at h1
  generalize (execOp a.eval o).run P w = r at h1 ⊢
  cases r with
  | ok x w' =>
    cases x with
    | enter f args => exact ⟨fun e => by rw [hF.d] at e; exact Bool.noConfusion e, hF.calls h1⟩
    | row row args => exact ⟨fun e => by rw [hF.d] at e; exact Bool.noConfusion e, hF.rows h1⟩
    | round _ _ _ _ _ => exact h1.elim
    | _ => first | exact h1 | exact h1.elim
  | halt s w' => cases s <;> first | exact h1 | exact h1.elim
theorem CI.seq {x y : Code} (h : CI F k P x (Exit.then (y.wpIn F k P Q) Q) N env w) : CI F k P (.seq x y) Q N env w := fun a ha => wpIn_seq (h a ha)
theorem CI.cond_t {c : Operand} {x y : Code} (hc : Ev env c (.bool true)) (h : CI F k P x Q N env w) : CI F k P (.cond c x y) Q N env w := fun a ha => wpIn_cond_true (ha.eval hc) (h a ha)
theorem CI.cond_f {c : Operand} {x y : Code} (hc : Ev env c (.bool false)) (h : CI F k P y Q N env w) : CI F k P (.cond c x y) Q N env w := fun a ha => wpIn_cond_false (ha.eval hc) (h a ha)
theorem CI.block {id : Nat} {c : Code} (h : CI F k P c (Exit.inBlock id Q) N env w) : CI F k P (.block id c) Q N env w := fun a ha => wpIn_block (h a ha)
theorem CI.skip (h : QG Q .normal N env w) : CI F k P .skip Q N env w := fun a ha => wpIn_skip (h a ha)
theorem CI.list {id : Nat} {l : List Oper} (h : GI F k P l.toArray Q N w l env) : CI F k P (.region id l.toArray false) Q N env w := fun a ha => wpIn_region_lit (h a ha)
theorem QG.codeI {y : Code} {Q' : Exit → Act → World → Prop} (h : CI F k P y Q' N env w) : QG (Exit.then (y.wpIn F k P Q') Q) .normal N env w := h
/-- Outside of rounds both are one. -/
theorem CI.wide {c : Code} (h : CG P c Q N env w) : CI Fence.wide k P c Q N env w := fun a ha => wpIn_wide.2 (h a ha)
theorem CG.wide {c : Code} (k : Nat) (h : CI Fence.wide k P c Q N env w) : CG P c Q N env w := fun a ha => wpIn_wide.1 (h a ha)
/-- A call of yield. -/
theorem GI.yield {n l : Nat} {x : Operand} {xs : List Operand} {ts : Array TypeId} {vs : List Value} {R : Ending → World → Prop} (hF : WF F) (hd : o.dst = some n) (hn : Nat.blt n N = true) (hw : want ops env o = some true) (ho : o.op = .call { callee := .value x, args := xs.toArray, argTypes := ts })
    (hx : Ev env x (.func (.yield l) #[] #[])) (hxs : EvL env xs vs) (hY : YieldAt F (k - 1) P l vs.toArray w R) (h : ∀ e w', R e w' → ∃ v, e = .returned v ∧ GI F k P ops Q N w' rest ((n, v) :: env)) : GI F k P ops Q N w (o :: rest) env := by
  obtain ⟨fn, tmps, assign, body, hy, hR⟩ := hY
  intro a ha
  refine wpListIn_want (wanted_of ha hw) fun K hK => ⟨fun f _ => hF.f f, ?_⟩
  have hr : (execOp a.eval o).run P w = .ok (.round l fn tmps assign body) w := by
    have e := ha.evalL hxs
    have e1 := ha.eval hx
    generalize a.eval = ρ at e e1 ⊢
    unfold execOp; rw [ho]
    simp [go_sem, e, e1, hy]
  rw [semAt_any (by rw [ho]; rfl), hr]
  refine ⟨fun e => by rw [hF.d] at e; exact Bool.noConfusion e, hR.mono ?_⟩
  intro e w' hRe
  obtain ⟨v, rfl, hg⟩ := h e w' hRe
  show K (a.put o.dst v) w'
  rw [hd]
  exact hK _ _ (hg _ (ha.put v (by simpa [Nat.blt_eq] using hn)))
/-- A function value is made of a function and what it has captured. -/
theorem Runs.makeFunc {f : FuncId} {xs : List Operand} {vs : List Value} (ho : o.op = .makeFunc (.func f) #[] xs.toArray) (hx : EvL env xs vs) : Runs P N env o w (.func (.func f) #[] vs.toArray) := fun a w' ha hw => by
  have e := ha.evalL hx
  generalize a.eval = ρ at e ⊢
  unfold execOp; rw [ho]
  simp [go_sem, e]
/-- A call of a function value. -/
theorem ST.callV {x : Operand} {f : FuncId} {cap : List Value} {xs : List Operand} {ts : Array TypeId} {vs : List Value} {K : Value → World → Prop}
    (ho : o.op = .call { callee := .value x, args := xs.toArray, argTypes := ts }) (hf : ∀ args W, (callFunc f args).run P W = .ok (.enter f args) W) (hx : Ev env x (.func (.func f) #[] cap.toArray)) (hxs : EvL env xs vs)
    (hc : Calls P f (vs ++ cap).toArray w (fun e w' => ∃ v, e = .returned v ∧ K v w')) : ST P Q N env w o K := by
  intro a ha Kc hK
  have hr : (execOp a.eval o).run P w = .ok (.enter f (vs ++ cap).toArray) w := by
    have e := ha.evalL hxs
    have e1 := ha.eval hx
    generalize a.eval = ρ at e e1 ⊢
    unfold execOp; rw [ho]
    simp [go_sem, e, e1, hf]
  unfold Oper.wp
  rw [hr]
  refine hc.mono ?_
  rintro e w' ⟨v, rfl, h⟩
  exact hK _ _ h
theorem QG.result0 {fn : Func} {R : Ending → World → Prop} (hf : fn.results = #[]) (h : R (.returned (.tuple #[])) w) : QG (bodyPost P fn R) .ret N env w := by
  intro a ha
  exact ⟨ha.defers, .tuple #[], results_none hf _ _ _, h⟩
theorem QG.result_n0 {fn : Func} {R : Ending → World → Prop} (hf : fn.results = #[]) (h : R (.returned (.tuple #[])) w) : QG (bodyPost P fn R) .normal N env w := by
  intro a ha
  exact ⟨ha.defers, .tuple #[], results_none hf _ _ _, h⟩
end
end Go.Proofs.Ytbajpjnloikpdaa.E
