/- The engine: a range over a function, and what lies behind it. -/
import Derived.Test.YtbajpjnloikpdaaE9
namespace Go.Proofs.Ytbajpjnloikpdaa.E
open Go.RowKit Go.Proofs.YtbajpjnloikpdaaW.PrintWords Go.Proofs.YtbajpjnloikpdaaW.PrintMore
open Go.Proofs.Ytbajpjnloikpdaa.T
set_option linter.unusedVariables false
set_option linter.unusedSimpArgs false
section
variable {F : Fence} {k : Nat} {P : Program} {ops : Array Oper} {Q : Exit → Act → World → Prop} {N : Nat} {w : World} {rest : List Oper} {env : Env} {o : Oper}
theorem enterM {f : FuncId} {fn : Func} {c : Code} {args : List Value} {R : Ending → World → Prop} (k : Nat) (hf : P.funcs[f]? = some fn) (hb : fn.body = some c) (hn : fn.ntmps = N) (hl : args.length ≤ N) (h : CI Fence.wide k P c (bodyPostM Fence.wide k P fn R) N (argEnv 0 args) w) : Calls P f args.toArray w R := by
  refine (callsIn_wide (n := k)).1 (callsIn_of_wp_marks hf hb trivial (h _ ⟨?_, rfl, ?_⟩))
  · simp [hn]; omega
  · intro n v hv
    obtain ⟨_, h2⟩ := look_argEnv args 0 n v hv
    have hlt := (List.getElem?_eq_some_iff.1 h2).1
    simp only [Nat.sub_zero] at h2 hlt
    show (args.toArray ++ Array.replicate _ undef)[n]? = some v
    rw [Array.getElem?_append_left (by simpa using hlt)]
    simpa using h2
/-- A variable of one cell is made. -/
theorem ST.allocZ {t : TypeId} {z : Value} {cs : Array Value} {K : Value → World → Prop} (ho : o.op = .alloc t) (hz : (P.info? t).map (·.zero) = some (some z)) (hc : z.cells = cs)
    (h : ∀ g w1, g = w.heap.size → w1.heap[g]? = some (.cells cs t (0, 0)) → Below w.heap.size w w1 → K (.pointer (some ⟨g, 0, none⟩)) w1) : ST P Q N env w o K := by
  refine ST.ev (v := .pointer (some ⟨w.heap.size, 0, none⟩)) (w1 := w.alloc (.cells cs t (0, 0))) (fun a ha => ?_) (h _ _ rfl (blk_new w _) (below_alloc (Below.refl _ _) _))
  cases hq : P.info? t with
  | none => simp [hq] at hz
  | some i =>
    have hi : i.zero = some z := by simpa [hq] using hz
    subst hc
    unfold execOp; rw [ho]
    simp [go_sem, zeroValue, typeInfo, hq, hi]
/-! #### frames that have something to do at their end -/
def QD (Q : Exit → Act → World → Prop) (e : Exit) (N : Nat) (env : Env) (ds : List Deferred) (w : World) : Prop := ∀ a, Holds N a env → Q e { a with defers := ds } w
def CD (F : Fence) (k : Nat) (P : Program) (c : Code) (Q : Exit → Act → World → Prop) (N : Nat) (env : Env) (ds : List Deferred) (w : World) : Prop := ∀ a, Holds N a env → c.wpIn F k P Q { a with defers := ds } w
def GD (F : Fence) (k : Nat) (P : Program) (ops : Array Oper) (Q : Exit → Act → World → Prop) (N : Nat) (ds : List Deferred) (w : World) (rest : List Oper) (env : Env) : Prop := ∀ a, Holds N a env → wpListIn F k P ops Q rest { a with defers := ds } w
variable {ds : List Deferred}
theorem QD.codeI {y : Code} {Q' : Exit → Act → World → Prop} (h : CD F k P y Q' N env ds w) : QD (Exit.then (y.wpIn F k P Q') Q) .normal N env ds w := h
theorem QD.block_normal {id : Nat} (h : QD Q .normal N env ds w) : QD (Exit.inBlock id Q) .normal N env ds w := h
theorem CD.seq {x y : Code} (h : CD F k P x (Exit.then (y.wpIn F k P Q) Q) N env ds w) : CD F k P (.seq x y) Q N env ds w := fun a ha => wpIn_seq (h a ha)
theorem CD.list {id : Nat} {l : List Oper} (h : GD F k P l.toArray Q N ds w l env) : CD F k P (.region id l.toArray false) Q N env ds w := fun a ha => wpIn_region_lit (h a ha)
theorem CD.ret (h : QD Q .ret N env ds w) : CD F k P .ret Q N env ds w := fun a ha => wpIn_ret (h a ha)
theorem GD.done (h : QD Q .normal N env ds w) : GD F k P ops Q N ds w [] env := fun a ha => h a ha
theorem GD.run {n : Nat} {v : Value} (hF : WF F) (hnd : noDefer o.op = true) (hd : o.dst = some n) (hn : Nat.blt n N = true) (hw : want ops env o = some true) (hr : Runs P N env o w v) (h : GD F k P ops Q N ds w rest ((n, v) :: env)) : GD F k P ops Q N ds w (o :: rest) env := by
  intro a ha
  refine wpListIn_want (wanted_of ha hw) fun K hK => ⟨fun f _ => hF.f f, ?_⟩
  rw [semAt_any hnd, show (execOp ({ a with defers := ds } : Act).eval o).run P w = (execOp a.eval o).run P w from rfl, hr a w ha rfl]
  show K (({ a with defers := ds } : Act).put o.dst v) w
  rw [hd]
  exact hK _ _ (h _ (ha.put v (by simpa [Nat.blt_eq] using hn)))
/-- An operation writes. -/
def Writes (P : Program) (N : Nat) (env : Env) (o : Oper) (w w1 : World) : Prop := ∀ a, Holds N a env → (execOp a.eval o).run P w = .ok .skip w1
theorem GD.sn {w1 : World} (hF : WF F) (hnd : noDefer o.op = true) (hd : o.dst = none) (hw : want ops env o = some true) (hr : Writes P N env o w w1) (h : GD F k P ops Q N ds w1 rest env) : GD F k P ops Q N ds w (o :: rest) env := by
  intro a ha
  refine wpListIn_want (wanted_of ha hw) fun K hK => ⟨fun f _ => hF.f f, ?_⟩
  rw [semAt_any hnd, show (execOp ({ a with defers := ds } : Act).eval o).run P w = (execOp a.eval o).run P w from rfl, hr a ha]
  show K (({ a with defers := ds } : Act).put o.dst undef) w1
  rw [hd]
  exact hK _ _ (h _ ha)
theorem Writes.sl {ty : TypeId} {x y : Operand} {g i : Nat} {A : Option Addr} {n c : Nat} {cs : List Value} {t : TypeId} (ho : o.op = .store ty x y) (hz : Sized P ty) (hz1 : P.cellsOf ty = 1) (hx : Ev env x (.pointer (some ⟨g, i, none⟩))) (hy : Ev env y (.slice A n c))
    (hb : w.heap[g]? = some (.cells cs.toArray t (0, 0))) (hi : Nat.blt i cs.length = true) : Writes P N env o w (w.setCell ⟨g, i, none⟩ (.slice A n c)) := by
  intro a ha
  have hi' : i < cs.length := by simpa [Nat.blt_eq] using hi
  have h1 : w.cell? ⟨g, i, none⟩ = some cs[i] := by rw [blk_cell hb]; simp [hi']
  have h2 : w.frozen? ⟨g, i, none⟩ = false := blk_frozen hb i
  unfold execOp; rw [ho]; simp only []; rw [ha.eval hx, ha.eval hy]
  obtain ⟨inf, q1, q2⟩ := hz
  simp [go_sem, run_sizeOf w q1, hz1, h1, h2]
/-- The function returns behind a range: what the range laid is taken up. -/
theorem QD.result2 {fn : Func} {R : Ending → World → Prop} {D : Nat} {t u : Tmp} {v x : Value} (hk : w.heap[D]? = some (.deferred (some []))) (hf : fn.results = #[.tmp t, .tmp u]) (hv : look env t = some v) (hx : look env u = some x) (h : R (.returned (.tuple #[v, x])) (w.putObj D (.deferred none))) :
    QD (bodyPostM F k P fn R) .ret N env [{ target := .collected D, args := #[] }] w := by
  intro a ha
  refine ⟨by simp, .inl ⟨_, _, rfl, run_takeDeferred hk, ?_⟩⟩
  have e1 : a.tmps.getD t undef = v := ha.eval (x := .tmp t) hv
  have e2 : a.tmps.getD u undef = x := ha.eval (x := .tmp u) hx
  refine ⟨.tuple #[v, x], ?_, h⟩
  show (results fn a.tmps).run P _ = _
  rw [results_tmp2 hf, e1, e2]
theorem run_isAgg_slice {ty e : TypeId} (hu : P.underlying ty = some (.slice e)) (W : World) : (isAgg ty).run P W = .ok false W := by
  unfold isAgg
  rw [Sem.run_bind, run_underlying hu W]
  rfl
theorem QD.result_sl {fn : Func} {R : Ending → World → Prop} {D : Nat} {p : Tmp} {ty t e : TypeId} {g : Nat} {v : Value} (hk : w.heap[D]? = some (.deferred (some []))) (hf : fn.results = #[.cell p ty]) (hp : look env p = some (.pointer (some ⟨g, 0, none⟩))) (hg : w.heap[g]? = some (.cells #[v] t (0, 0)))
    (hu : P.underlying ty = some (.slice e)) (h : R (.returned v) (w.putObj D (.deferred none))) : QD (bodyPostM F k P fn R) .ret N env [{ target := .collected D, args := #[] }] w := by
  intro a ha
  refine ⟨by simp, .inl ⟨_, _, rfl, run_takeDeferred hk, ?_⟩⟩
  have hne : g ≠ D := fun e => by subst e; rw [hg] at hk; cases hk
  have hg' : (w.putObj D (.deferred none)).heap[g]? = some (.cells #[v] t (0, 0)) := (World.putObj_heap_other hne).trans hg
  have e1 : a.tmps.getD p undef = .pointer (some ⟨g, 0, none⟩) := ha.eval (x := .tmp p) hp
  have hp' : a.tmps[p]?.getD undef = .pointer (some ⟨g, 0, none⟩) := by simpa using e1
  have hc : (w.putObj D (.deferred none)).cell? ⟨g, 0, none⟩ = some v := by rw [blk_cell hg']; rfl
  refine ⟨v, ?_, h⟩
  show (results fn a.tmps).run P _ = _
  simp [results, hf, hp', asAddr, loadVar, Sem.run_bind, run_isAgg_slice hu, go_sem, hc]
/-- A range over a function. -/
theorem CI.range {α γ : Type} {g : Operand} {ps : Array Tmp} {assign body : Code} {gf : Nat} {lb : Array Value} {encs : α → Array Value} {S Sp : List α → Prop} {Mx : Nat} {w0 : World} {Kp : World → World → Prop}
    (h1 : 1 ≤ k) (hg : Ev env g (.func (.func gf) #[] lb)) (eg : ∀ args w, (callFunc gf args).run P w = .ok (.enter gf args) w)
    (hseq : SeqStopsK Fence.wide (k - 1) P gf lb encs Kp S Sp Mx w0) (hKt : ∀ {A B C : World}, Kp A B → Kp B C → Kp A C) (hKb : ∀ (W : World) (l : Nat) (o o' : Obj), w.heap.size ≤ l → W.heap[l]? = some o → o.isCells = false → o.isWalk = false → Kp W (W.putObj l o')) (hb0 : Below w0.heap.size w0 w) (hps : ∀ x, (encs x).size = ps.size)
    (I : List α → World → Prop) (hI : OwnFrom w.heap.size I) (h0 : I [] w) (envP : α → Env) (hP : ∀ x a, Holds N a env → Holds N { tmps := (ps.zip (encs x)).foldl (fun t (p, v) => t.setIfInBounds p v) a.tmps, defers := [] } (envP x))
    (envB : α → γ → Env) (RB : α → γ → World → Prop) (hRB : ∀ x c, OwnFrom w.heap.size (fun (_ : Unit) W => RB x c W))
    (hassign : ∀ (l : Nat) (pre : List α) (x : α) (W : World) (K : Act → World → Prop), I pre W → (∀ c W', KeepsFrom w.heap.size W W' → Kp W W' → I pre W' → RB x c W' → ∀ a', Holds N a' (envB x c) → K a' W') → CI (Fence.wide.inRound l) (k - 1 - 1) P assign (Exit.then K (fun _ _ _ => False)) N (envP x) W)
    (hbody : ∀ (l : Nat) (pre : List α) (x : α) (c : γ) (W : World), I pre W → RB x c W → pre.length < Mx → CI (Fence.wide.inRound l) (k - 1 - 1) P body (ownPostG w.heap.size Kp I (fun _ _ _ => False) (pre ++ [x]) W) N (envB x c) W)
    (hdone : ∀ (D : Nat) (xs : List α) (W : World), w.heap.size ≤ D → S xs → I xs W → W.heap[D]? = some (.deferred (some [])) → QD Q .normal N env [{ target := .collected D, args := #[] }] W) :
    CI Fence.wide k P (.rangeFunc g ps assign body) Q N env w := by
  intro a ha
  refine wpIn_rangeFunc_ownH rfl h1 (ha.eval hg) trivial eg hseq hKt hKb hb0 hps I (fun _ _ _ => False) hI (fun c _ _ _ _ hs _ _ => hs) h0
    (fun x a' W => ∃ c, Holds N a' (envB x c) ∧ RB x c W) (fun x a' s A B row hs hgr hrow => ?_) (fun l pre x W K hi hK => ?_) (fun l pre x a' W _ _ hi hx hlt => ?_) (fun D xs W hD hs hi hk => ?_) (fun D c pre W _ _ h _ => h.elim)
  · obtain ⟨c, q1, q2⟩ := hs
    exact ⟨c, q1, hRB x c () A B row q2 hgr hrow⟩
  · exact hassign l pre x W K hi (fun c W' q1 q2 q3 q4 a' q5 => hK a' W' q1 q2 q3 ⟨c, q5, q4⟩) _ (hP x a ha)
  · obtain ⟨c, q1, q2⟩ := hx
    exact hbody l pre x c W hi q2 hlt a' q1
  · have := hdone D xs W hD hs hi hk a ha
    rw [ha.defers]
    exact this
end
end Go.Proofs.Ytbajpjnloikpdaa.E
