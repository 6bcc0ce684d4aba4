/- An engine for walks over great frames: what is known of a frame is a short list of slots. -/
import Derived.Test.YtbajpjnloikpdaaA0
import Derived.BigQuiet
namespace Go.Proofs.Ytbajpjnloikpdaa.E
open Go.RowKit Go.Proofs.YtbajpjnloikpdaaW.PrintWords Go.Proofs.YtbajpjnloikpdaaW.PrintMore
set_option linter.unusedVariables false
abbrev Env := List (Nat × Value)
noncomputable def look (env : Env) (n : Nat) : Option Value :=
  List.rec (motive := fun _ => Option Value) none (fun kv _ ih => Prod.rec (motive := fun _ => Option Value) (fun k v => bif Nat.beq k n then some v else ih) kv) env
theorem look_nil (n : Nat) : look [] n = none := rfl
theorem look_cons (k : Nat) (v : Value) (r : Env) (n : Nat) : look ((k, v) :: r) n = bif Nat.beq k n then some v else look r n := rfl
/-- What is known of a frame of so many slots. -/
structure Holds (N : Nat) (a : Act) (env : Env) : Prop where
  size : a.tmps.size = N
  defers : a.defers = []
  get : ∀ n v, look env n = some v → a.tmps[n]? = some v
theorem Holds.put {N : Nat} {a : Act} {env : Env} (h : Holds N a env) {n : Nat} (v : Value) (hn : n < N) : Holds N (a.put (some n) v) ((n, v) :: env) := by
  refine ⟨by simp [Act.put, h.size], by simp [Act.put, h.defers], fun m u hm => ?_⟩
  rw [look_cons] at hm
  by_cases hk : n = m
  · subst hk
    simp only [Nat.beq_refl, cond_true, Option.some.injEq] at hm
    subst hm
    simp [Act.put, h.size, hn]
  · have : Nat.beq n m = false := by
      rw [← Bool.not_eq_true, Nat.beq_eq]
      exact hk
    rw [this] at hm
    simp only [cond_false] at hm
    have := h.get m u hm
    simp [Act.put, hk, this]
def Sub : Env → Env → Prop
  | [], _ => True
  | (k, v) :: r, env => look env k = some v ∧ Sub r env
theorem Sub.look : ∀ {e env : Env}, Sub e env → ∀ n v, E.look e n = some v → E.look env n = some v
  | [], _, _, n, v, h => by simp [look_nil] at h
  | (k, u) :: r, env, hs, n, v, h => by
    rw [look_cons] at h
    by_cases hk : k = n
    · subst hk
      simp only [Nat.beq_refl, cond_true, Option.some.injEq] at h
      subst h
      exact hs.1
    · have : Nat.beq k n = false := by
        rw [← Bool.not_eq_true, Nat.beq_eq]
        exact hk
      rw [this] at h
      simp only [cond_false] at h
      exact Sub.look hs.2 n v h
theorem Holds.sub {N : Nat} {a : Act} {env e : Env} (h : Holds N a env) (hs : Sub e env) : Holds N a e := ⟨h.size, h.defers, fun n v hn => h.get n v (hs.look n v hn)⟩
/-- An operand's value, as it is known. -/
def Ev (env : Env) : Operand → Value → Prop
  | .tmp n, v => look env n = some v
  | .const c, v => c = v
  | .func f, v => Value.func (.func f) #[] #[] = v
  | .global g, v => Value.pointer (some ⟨g, 0, none⟩) = v
theorem Holds.eval {N : Nat} {a : Act} {env : Env} (h : Holds N a env) {x : Operand} {v : Value} (e : Ev env x v) : a.eval x = v := by
  cases x with
  | tmp n =>
    have := h.get n v e
    show a.tmps.getD n undef = v
    rw [Array.getD_eq_getD_getElem?, this]
    rfl
  | const c => exact e
  | func f => exact e
  | global g => exact e
/-- An operation reads, and leaves this value. -/
def Runs (P : Program) (N : Nat) (env : Env) (o : Oper) (w : World) (v : Value) : Prop :=
  ∀ a w', Holds N a env → w'.heap = w.heap → (execOp a.eval o).run P w' = .ok (.value v) w'
/-- Whether an operation is wanted, as it is known. -/
noncomputable def want (ops : Array Oper) (env : Env) (o : Oper) : Option Bool :=
  match o.guard with
  | none => some true
  | some (j, b) => match (ops[j]?).bind (·.dst) with
    | some d => match look env d with
      | some (.bool c) => some (c == b)
      | some _ => some false
      | none => none
    | none => none
theorem wanted_of {N : Nat} {a : Act} {env : Env} (h : Holds N a env) {ops : Array Oper} {o : Oper} {t : Bool} (hw : want ops env o = some t) : Region.wanted o (yielded ops a.tmps) = t := by
  unfold want at hw
  unfold Region.wanted
  cases hg : o.guard with
  | none => simpa [hg] using hw
  | some p =>
    obtain ⟨j, b⟩ := p
    simp only [hg] at hw ⊢
    unfold yielded
    cases hd : (ops[j]?).bind (·.dst) with
    | none => simp [hd] at hw
    | some d =>
      simp only [hd] at hw
      simp only [Option.bind_some]
      cases hl : look env d with
      | none => simp [hl] at hw
      | some v =>
        rw [h.get d _ hl]
        cases v <;> simp only [hl, Option.some.injEq] at hw <;> subst hw <;> first | rfl | (rename_i c; cases c <;> cases b <;> rfl)
/-! ### Regions -/
def GQ (P : Program) (ops : Array Oper) (Q : Exit → Act → World → Prop) (N : Nat) (w : World) (rest : List Oper) (env : Env) : Prop :=
  ∀ a, Holds N a env → wpQuiet P ops (fun w' => ∃ n, w' = w.drewN n) (fun a' => ∀ w', (∃ n, w' = w.drewN n) → Q .normal a' w') rest a
def GL (P : Program) (ops : Array Oper) (Q : Exit → Act → World → Prop) (N : Nat) (w : World) (rest : List Oper) (env : Env) : Prop :=
  ∀ a, Holds N a env → wpList P ops Q rest a w
/-- What is asked at an exit, of a frame that is known so far. -/
def QG (Q : Exit → Act → World → Prop) (e : Exit) (N : Nat) (env : Env) (w : World) : Prop := ∀ a, Holds N a env → Q e a w
def CG (P : Program) (c : Code) (Q : Exit → Act → World → Prop) (N : Nat) (env : Env) (w : World) : Prop := ∀ a, Holds N a env → c.wp P Q a w
section
variable {P : Program} {ops : Array Oper} {Q : Exit → Act → World → Prop} {N : Nat} {w : World} {rest : List Oper} {env : Env} {o : Oper}
theorem heap_drewN (w : World) (n : Nat) : (w.drewN n).heap = w.heap := rfl
theorem GQ.run {n : Nat} {v : Value} (hd : o.dst = some n) (hn : Nat.blt n N = true) (hw : want ops env o = some true) (hr : Runs P N env o w v) (h : GQ P ops Q N w rest ((n, v) :: env)) : GQ P ops Q N w (o :: rest) env := by
  intro a ha
  refine BigFrame.wpQuiet_want (wanted_of ha hw) fun K hK => ⟨v, fun w' hw' => ?_, ?_⟩
  · obtain ⟨m, rfl⟩ := hw'
    unfold Oper.quietAt
    rw [hr a _ ha (heap_drewN w m)]
    exact ⟨rfl, rfl⟩
  · rw [hd]
    exact hK _ (h _ (ha.put v (by simpa [Nat.blt_eq] using hn)))
theorem GQ.skip {n : Nat} (hd : o.dst = some n) (hn : Nat.blt n N = true) (hw : want ops env o = some false) (h : GQ P ops Q N w rest ((n, undef) :: env)) : GQ P ops Q N w (o :: rest) env := by
  intro a ha
  refine BigFrame.wpQuiet_skip (wanted_of ha hw) ?_
  rw [hd]
  exact h _ (ha.put undef (by simpa [Nat.blt_eq] using hn))
theorem GQ.done (h : ∀ m, QG Q .normal N env (w.drewN m)) : GQ P ops Q N w [] env := by
  intro a ha
  refine wpQuiet_nil ?_
  rintro w' ⟨m, rfl⟩
  exact h m a ha
theorem GL.run {n : Nat} {v : Value} (hd : o.dst = some n) (hn : Nat.blt n N = true) (hw : want ops env o = some true) (hr : Runs P N env o w v) (h : GL P ops Q N w rest ((n, v) :: env)) : GL P ops Q N w (o :: rest) env := by
  intro a ha
  refine BigFrame.wpList_want (wanted_of ha hw) fun K hK => ?_
  unfold Oper.wp
  rw [hr a w ha rfl]
  show K (a.put o.dst v) w
  rw [hd]
  exact hK _ _ (h _ (ha.put v (by simpa [Nat.blt_eq] using hn)))
theorem GL.skip {n : Nat} (hd : o.dst = some n) (hn : Nat.blt n N = true) (hw : want ops env o = some false) (h : GL P ops Q N w rest ((n, undef) :: env)) : GL P ops Q N w (o :: rest) env := by
  intro a ha
  refine wpList_skip (wanted_of ha hw) ?_
  rw [hd]
  exact h _ (ha.put undef (by simpa [Nat.blt_eq] using hn))
theorem GL.done (h : QG Q .normal N env w) : GL P ops Q N w [] env := fun a ha => wpList_nil (h a ha)
/-- Any law of the kit's that makes one step. -/
theorem GL.step {n : Nat} (hd : o.dst = some n) (hn : Nat.blt n N = true) (hs : ∀ a, Holds N a env → (∀ v w1, GL P ops Q N w1 rest ((n, v) :: env) → wpList P ops Q rest (a.put o.dst v) w1) → wpList P ops Q (o :: rest) a w) : GL P ops Q N w (o :: rest) env := by
  intro a ha
  refine hs a ha fun v w1 h => ?_
  rw [hd]
  exact h _ (ha.put v (by simpa [Nat.blt_eq] using hn))
/-! ### Code -/
theorem CG.seq {x y : Code} (h : CG P x (Exit.then (y.wp P Q) Q) N env w) : CG P (.seq x y) Q N env w := fun a ha => wp_seq (h a ha)
theorem CG.cond_t {c : Operand} {x y : Code} (hc : Ev env c (.bool true)) (h : CG P x Q N env w) : CG P (.cond c x y) Q N env w := fun a ha => wp_cond_true (ha.eval hc) (h a ha)
theorem CG.cond_f {c : Operand} {x y : Code} (hc : Ev env c (.bool false)) (h : CG P y Q N env w) : CG P (.cond c x y) Q N env w := fun a ha => wp_cond_false (ha.eval hc) (h a ha)
theorem CG.block {id : Nat} {c : Code} (h : CG P c (Exit.inBlock id Q) N env w) : CG P (.block id c) Q N env w := fun a ha => wp_block (h a ha)
theorem CG.skip (h : QG Q .normal N env w) : CG P .skip Q N env w := fun a ha => wp_skip (h a ha)
theorem CG.exit {id : Nat} (h : QG Q (.exit id) N env w) : CG P (.exit id) Q N env w := fun a ha => wp_exit (h a ha)
theorem CG.ret (h : QG Q .ret N env w) : CG P .ret Q N env w := fun a ha => wp_ret (h a ha)
theorem CG.label {l : Nat} (h : QG Q .normal N env w) : CG P (.label l) Q N env w := fun a ha => wp_label (h a ha)
theorem CG.quiet {id : Nat} {l : List Oper} (hm : P.follows .mixedOrders = true) (hB : Region.lexB .any l.toArray = true) (h : GQ P l.toArray Q N w l env) : CG P (.region id l.toArray true) Q N env w :=
  fun a ha => wp_region_quiet_lit hm hB (h a ha)
theorem CG.list {id : Nat} {l : List Oper} (h : GL P l.toArray Q N w l env) : CG P (.region id l.toArray false) Q N env w := by
  intro a ha
  refine wp_region ?_
  have := wpOps_eq_wpList (P := P) (ops := l.toArray) (Q := Q) l 0 (fun j => by simp)
  rw [List.range_eq_range']
  simp only [List.size_toArray]
  rw [this]
  exact h a ha
theorem CG.loop {c : Code} {γ : Type} (E : γ → Env) (R : γ → World → Prop) (m : γ → Nat) (g0 : γ) (h0 : Sub (E g0) env) (hR : R g0 w)
    (round : ∀ g w', R g w' → CG P c (Exit.then (fun a'' w'' => ∃ g', Holds N a'' (E g') ∧ R g' w'' ∧ m g' < m g) Q) N (E g) w') : CG P (.loop c) Q N env w := by
  intro a ha
  refine wp_loop_ghost (fun n a w => ∃ g, m g = n ∧ Holds N a (E g) ∧ R g w) (m g0) ⟨g0, rfl, ha.sub h0, hR⟩ ?_
  rintro n a1 w1 ⟨g, rfl, hh, hr⟩
  refine wp_mono (round g w1 hr a1 hh) ?_
  intro e a' w' hq
  cases e <;> first | exact hq | (obtain ⟨g', h1, h2, h3⟩ := hq; exact ⟨_, h3, g', rfl, h1, h2⟩)
/-! ### Exits -/
theorem QG.code {y : Code} {Q' : Exit → Act → World → Prop} (h : CG P y Q' N env w) : QG (Exit.then (y.wp P Q') Q) .normal N env w := h
theorem QG.round {γ : Type} {E : γ → Env} {R : γ → World → Prop} {m : γ → Nat} {g : γ} (g' : γ) (h0 : Sub (E g') env) (hR : R g' w) (hm : m g' < m g) :
    QG (Exit.then (fun a'' w'' => ∃ g', Holds N a'' (E g') ∧ R g' w'' ∧ m g' < m g) Q) .normal N env w := fun a ha => ⟨g', ha.sub h0, hR, hm⟩
theorem QG.pass_exit {K : Act → World → Prop} {id : Nat} (h : QG Q (.exit id) N env w) : QG (Exit.then K Q) (.exit id) N env w := h
theorem QG.pass_ret {K : Act → World → Prop} (h : QG Q .ret N env w) : QG (Exit.then K Q) .ret N env w := h
theorem QG.block_normal {id : Nat} (h : QG Q .normal N env w) : QG (Exit.inBlock id Q) .normal N env w := h
theorem QG.block_ret {id : Nat} (h : QG Q .ret N env w) : QG (Exit.inBlock id Q) .ret N env w := h
theorem QG.block_here {id : Nat} (h : QG Q .normal N env w) : QG (Exit.inBlock id Q) (.exit id) N env w := fun a ha => by
  have := h a ha
  simpa [Exit.inBlock] using this
theorem QG.block_out {id id' : Nat} (hne : Nat.beq id' id = false) (h : QG Q (.exit id') N env w) : QG (Exit.inBlock id Q) (.exit id') N env w := fun a ha => by
  have hn : id' ≠ id := fun e => by subst e; simp at hne
  have := h a ha
  simpa [Exit.inBlock, hn] using this
theorem QG.result {fn : Func} {R : Ending → World → Prop} {t : Tmp} {v : Value} (hf : fn.results = #[.tmp t]) (hv : look env t = some v) (h : R (.returned v) w) : QG (bodyPost P fn R) .ret N env w := by
  intro a ha
  refine ⟨ha.defers, v, ?_, h⟩
  rw [results_tmp hf]
  have := ha.eval (x := .tmp t) (v := v) hv
  exact congrArg (fun x => Result.ok x w) this
theorem QG.result_n {fn : Func} {R : Ending → World → Prop} {t : Tmp} {v : Value} (hf : fn.results = #[.tmp t]) (hv : look env t = some v) (h : R (.returned v) w) : QG (bodyPost P fn R) .normal N env w := fun a ha => QG.result (P := P) (fn := fn) (R := R) hf hv h a ha
/-! ### What operations leave -/
theorem Runs.move {x : Operand} {v : Value} (ho : o.op = .move x) (hx : Ev env x v) : Runs P N env o w v := fun a w' ha _ => by rw [BigFrame.run_move x ho, ha.eval hx]
theorem Runs.assign {x : Operand} {v : Value} (ho : o.op = .assign x) (hx : Ev env x v) : Runs P N env o w v := fun a w' ha _ => by rw [BigFrame.run_assign x ho, ha.eval hx]
theorem Runs.pick_t {c x y : Operand} {v : Value} (ho : o.op = .pick c x y) (hc : Ev env c (.bool true)) (hx : Ev env x v) : Runs P N env o w v := fun a w' ha _ => by
  unfold execOp; rw [ho]; simp only []; rw [ha.eval hc, ha.eval hx]; rfl
theorem Runs.pick_f {c x y : Operand} {v : Value} (ho : o.op = .pick c x y) (hc : Ev env c (.bool false)) (hy : Ev env y v) : Runs P N env o w v := fun a w' ha _ => by
  unfold execOp; rw [ho]; simp only []; rw [ha.eval hc, ha.eval hy]; rfl
theorem cell_heap {w w' : World} (h : w'.heap = w.heap) (p : Addr) : w'.cell? p = w.cell? p := by unfold World.cell?; rw [h]
theorem Runs.load {t : TypeId} {x : Operand} {p : Addr} {k : IntKind} {v : Value} (ho : o.op = .load t x) (hx : Ev env x (.pointer (some p))) (hu : P.underlying t = some (.int k)) (hc : w.cell? p = some v) : Runs P N env o w v := fun a w' ha hw => by
  have hc' : w'.cell? p = some v := (cell_heap hw p).trans hc
  unfold execOp; rw [ho]; simp only []; rw [ha.eval hx]
  simp [go_sem, isAgg, run_underlying hu, hc']
theorem Runs.lss {t u : TypeId} {x y : Operand} {k : IntKind} {m n : Int} {b : Bool} (ho : o.op = .binOp .lss t x y u) (hx : Ev env x (.int k m)) (hy : Ev env y (.int k n)) (hb : (decide (m < n)) = b) : Runs P N env o w (.bool b) := fun a w' ha hw => by
  unfold execOp; rw [ho]; simp only []; rw [ha.eval hx, ha.eval hy]
  subst hb
  simp [go_sem]
theorem Runs.gtr {t u : TypeId} {x y : Operand} {k : IntKind} {m n : Int} {b : Bool} (ho : o.op = .binOp .gtr t x y u) (hx : Ev env x (.int k m)) (hy : Ev env y (.int k n)) (hb : (decide (n < m)) = b) : Runs P N env o w (.bool b) := fun a w' ha hw => by
  unfold execOp; rw [ho]; simp only []; rw [ha.eval hx, ha.eval hy]
  subst hb
  simp [go_sem]
theorem Runs.leq {t u : TypeId} {x y : Operand} {k : IntKind} {m n : Int} {b : Bool} (ho : o.op = .binOp .leq t x y u) (hx : Ev env x (.int k m)) (hy : Ev env y (.int k n)) (hb : (decide (m ≤ n)) = b) : Runs P N env o w (.bool b) := fun a w' ha hw => by
  unfold execOp; rw [ho]; simp only []; rw [ha.eval hx, ha.eval hy]
  subst hb
  simp [go_sem]
theorem Runs.geq {t u : TypeId} {x y : Operand} {k : IntKind} {m n : Int} {b : Bool} (ho : o.op = .binOp .geq t x y u) (hx : Ev env x (.int k m)) (hy : Ev env y (.int k n)) (hb : (decide (n ≤ m)) = b) : Runs P N env o w (.bool b) := fun a w' ha hw => by
  unfold execOp; rw [ho]; simp only []; rw [ha.eval hx, ha.eval hy]
  subst hb
  simp [go_sem]
theorem Runs.eql {t u : TypeId} {x y : Operand} {k : IntKind} {m n : Int} {b : Bool} (ho : o.op = .binOp .eql t x y u) (hx : Ev env x (.int k m)) (hy : Ev env y (.int k n)) (hb : (decide (m = n)) = b) : Runs P N env o w (.bool b) := fun a w' ha hw => by
  unfold execOp; rw [ho]; simp only []; rw [ha.eval hx, ha.eval hy]
  subst hb
  simp [go_sem]
  try rfl
theorem Runs.neq {t u : TypeId} {x y : Operand} {k : IntKind} {m n : Int} {b : Bool} (ho : o.op = .binOp .neq t x y u) (hx : Ev env x (.int k m)) (hy : Ev env y (.int k n)) (hb : (!decide (m = n)) = b) : Runs P N env o w (.bool b) := fun a w' ha hw => by
  unfold execOp; rw [ho]; simp only []; rw [ha.eval hx, ha.eval hy]
  subst hb
  simp [go_sem]
  try rfl
theorem Runs.add {t u : TypeId} {x y : Operand} {k : IntKind} {m n r : Int} (ho : o.op = .binOp .add t x y u) (hx : Ev env x (.int k m)) (hy : Ev env y (.int k n)) (hb : k.wrap (m + n) = r) : Runs P N env o w (.int k r) := fun a w' ha hw => by
  unfold execOp; rw [ho]; simp only []; rw [ha.eval hx, ha.eval hy]
  subst hb
  simp [go_sem]
theorem Runs.sub {t u : TypeId} {x y : Operand} {k : IntKind} {m n r : Int} (ho : o.op = .binOp .sub t x y u) (hx : Ev env x (.int k m)) (hy : Ev env y (.int k n)) (hb : k.wrap (m - n) = r) : Runs P N env o w (.int k r) := fun a w' ha hw => by
  unfold execOp; rw [ho]; simp only []; rw [ha.eval hx, ha.eval hy]
  subst hb
  simp [go_sem]
theorem Runs.mul {t u : TypeId} {x y : Operand} {k : IntKind} {m n r : Int} (ho : o.op = .binOp .mul t x y u) (hx : Ev env x (.int k m)) (hy : Ev env y (.int k n)) (hb : k.wrap (m * n) = r) : Runs P N env o w (.int k r) := fun a w' ha hw => by
  unfold execOp; rw [ho]; simp only []; rw [ha.eval hx, ha.eval hy]
  subst hb
  simp [go_sem]
theorem Runs.not {t : TypeId} {x : Operand} {b : Bool} (ho : o.op = .unOp .not t x) (hx : Ev env x (.bool b)) : Runs P N env o w (.bool (!b)) := fun a w' ha hw => by
  unfold execOp; rw [ho]; simp only []; rw [ha.eval hx]
  simp [go_sem]
theorem Runs.extract {x : Operand} {i : Nat} {cs : Array Value} {v : Value} (ho : o.op = .extract x i) (hx : Ev env x (.tuple cs)) (hv : cs[i]? = some v) : Runs P N env o w v := fun a w' ha hw => by
  unfold execOp; rw [ho]; simp only []; rw [ha.eval hx]
  simp [go_sem, hv]
/-- An address, so many cells on. -/
def onA (p : Addr) : Nat → Addr
  | 0 => p
  | n + 1 => ⟨p.block, p.off + (n + 1), none⟩
theorem add_onA (p : Addr) : ∀ n, p.add n = onA p n
  | 0 => rfl
  | n + 1 => by simp [Addr.add, onA]
/-- A type whose values have a size. -/
def Sized (P : Program) (t : TypeId) : Prop := ∃ inf, P.info? t = some inf ∧ P.cellsOf t ≠ 0
theorem Runs.fieldAddr {t : TypeId} {x : Operand} {i : Nat} {p q : Addr} {fs : Array Field} {f : Field} (ho : o.op = .fieldAddr t x i) (hx : Ev env x (.pointer (some p))) (hu : P.underlying t = some (.struct fs)) (hf : fs[i]? = some f) (hz : Sized P f.type) (hq : onA p f.offset = q) : Runs P N env o w (.pointer (some q)) := fun a w' ha hw => by
  obtain ⟨inf, h1, h2⟩ := hz
  unfold execOp; rw [ho]; simp only []; rw [ha.eval hx]
  rw [← hq, ← add_onA]
  simp [go_sem, run_underlying hu, hf, run_sizeOf w' h1, h2]
theorem Runs.indexAddr {t e : TypeId} {x y : Operand} {p : Addr} {n c : Nat} {k : IntKind} {i : Nat} {sz : Nat} {q : Addr} (ho : o.op = .indexAddr t x y) (hx : Ev env x (.slice (some p) n c)) (hy : Ev env y (.int k i)) (hu : P.underlying t = some (.slice e)) (hz : Sized P e) (hs : P.cellsOf e = sz) (hl : (i : Int) < n) (hq : p.add (i * sz) = q) : Runs P N env o w (.pointer (some q)) := fun a w' ha hw => by
  obtain ⟨inf, h1, h2⟩ := hz
  unfold execOp; rw [ho]; simp only []; rw [ha.eval hx, ha.eval hy]
  subst hq hs
  have h3 : i < n := by omega
  simp [Instr.indexAt, asIntOf, run_underlying hu, run_sizeOf w' h1, h3]
theorem Runs.len {x : Operand} {t e : TypeId} {p : Option Addr} {n c : Nat} (ho : o.op = .call { callee := .builtin .len, args := #[x], argTypes := #[t] }) (hx : Ev env x (.slice p n c)) (hu : P.underlying t = some (.slice e)) : Runs P N env o w (.int .i64 n) := fun a w' ha hw => by
  have e := ha.eval hx
  generalize a.eval = ρ at e ⊢
  unfold execOp; rw [ho]
  simp [go_sem, e, Builtin.len_, run_underlying hu]
end
end Go.Proofs.Ytbajpjnloikpdaa.E
