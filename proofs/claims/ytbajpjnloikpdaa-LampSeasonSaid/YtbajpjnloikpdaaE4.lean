/- The engine for great frames: one operation that does more than read, told alike for regions in order and for regions that draw. -/
import Derived.Test.YtbajpjnloikpdaaE3
namespace Go.Proofs.Ytbajpjnloikpdaa.E
open Go.RowKit Go.Proofs.YtbajpjnloikpdaaW.PrintWords Go.Proofs.YtbajpjnloikpdaaW.PrintMore
open Go.Proofs.Ytbajpjnloikpdaa.T
set_option linter.unusedVariables false
set_option linter.unusedSimpArgs false
/-- One operation is carried out: what follows is told of its value and the world behind it. -/
def ST (P : Program) (Q : Exit → Act → World → Prop) (N : Nat) (env : Env) (w : World) (o : Oper) (K : Value → World → Prop) : Prop :=
  ∀ a, Holds N a env → ∀ Kc : Act → World → Prop, (∀ v w1, K v w1 → Kc (a.put o.dst v) w1) → Oper.wp P o a w Kc Q
section
variable {P : Program} {ops : Array Oper} {Q : Exit → Act → World → Prop} {N : Nat} {w : World} {rest : List Oper} {env : Env} {o : Oper} {K : Value → World → Prop}
theorem GL.st {n : Nat} (hd : o.dst = some n) (hn : Nat.blt n N = true) (hw : want ops env o = some true) (h : ST P Q N env w o (fun v w1 => GL P ops Q N w1 rest ((n, v) :: env))) : GL P ops Q N w (o :: rest) env := by
  intro a ha
  refine BigFrame.wpList_want (wanted_of ha hw) fun Kc hK => h a ha Kc fun v w1 h1 => hK _ _ ?_
  rw [hd]
  exact h1 _ (ha.put v (by simpa [Nat.blt_eq] using hn))
theorem GL.sn (hd : o.dst = none) (hw : want ops env o = some true) (h : ST P Q N env w o (fun v w1 => GL P ops Q N w1 rest env)) : GL P ops Q N w (o :: rest) env := by
  intro a ha
  refine BigFrame.wpList_want (wanted_of ha hw) fun Kc hK => h a ha Kc fun v w1 h1 => hK _ _ ?_
  rw [hd]
  exact h1 _ ha
variable {S : World → Prop} {fuel : Nat} {listed : Array Bool}
theorem GO.st {n : Nat} (hd : o.dst = some n) (hn : Nat.blt n N = true) (hw : want ops env o = some true) (h : ST P Q N env w o (fun v w1 => S w1 ∧ GH P ops Q N S fuel listed ((n, v) :: env) w1)) : GO P ops Q N S fuel listed env w o := by
  intro a ha hS Kc hK
  rw [if_pos (wanted_of ha hw)]
  refine h a ha Kc fun v w1 h1 => hK _ _ h1.1 fun _ => ?_
  rw [hd]
  exact h1.2 _ (ha.put v (by simpa [Nat.blt_eq] using hn)) h1.1
theorem GO.sn (hd : o.dst = none) (hw : want ops env o = some true) (h : ST P Q N env w o (fun v w1 => S w1 ∧ GH P ops Q N S fuel listed env w1)) : GO P ops Q N S fuel listed env w o := by
  intro a ha hS Kc hK
  rw [if_pos (wanted_of ha hw)]
  refine h a ha Kc fun v w1 h1 => hK _ _ h1.1 fun _ => ?_
  rw [hd]
  exact h1.2 _ ha h1.1
/-- The one operation that can come next. -/
theorem GH.one {i : Nat} (hr : Region.ready .any ops listed = [i]) (ho : ops[i]? = some o) (h : GO P ops Q N S fuel (listed.setIfInBounds i true) env w o) : GH P ops Q N S (fuel + 1) listed env w :=
  GH.all hr (by simp) (GHs.cons ho h GHs.nil)
/-- What a region that draws begins with: all that was there is as it was. -/
theorem CG.heldB {id : Nat} (row : Option Nat) (hm : P.follows .mixedOrders = true) (h : GH P ops Q N (fun W => w.grownBy W row) ops.size (Array.replicate ops.size false) env w.drew) : CG P (.region id ops true) Q N env w :=
  CG.held _ hm ⟨rfl, rfl, rfl, Nat.le_refl _, fun _ _ _ => rfl⟩ h
theorem ST.ev {v : Value} {w1 : World} (hr : ∀ a, Holds N a env → (execOp a.eval o).run P w = .ok (.value v) w1) (h : K v w1) : ST P Q N env w o K := by
  intro a ha Kc hK
  unfold Oper.wp
  rw [hr a ha]
  exact hK _ _ h
theorem ST.reads {v : Value} (hr : Runs P N env o w v) (h : K v w) : ST P Q N env w o K := ST.ev (fun a ha => hr a w ha rfl) h
theorem ST.box {t : TypeId} {x : Operand} {cs : Array Value} (ho : o.op = .box t x) (hx : Ev env x (.agg cs))
    (h : ∀ g w1, g = w.heap.size → w1.heap[g]? = some (.cells cs t (0, 0)) → Below w.heap.size w w1 → K (.pointer (some ⟨g, 0, none⟩)) w1) : ST P Q N env w o K := by
  refine ST.ev (v := .pointer (some ⟨w.heap.size, 0, none⟩)) (w1 := w.alloc (.cells cs t (0, 0))) (fun a ha => ?_) (h _ _ rfl (blk_new w _) (below_alloc (Below.refl _ _) _))
  unfold execOp; rw [ho]; simp only []; rw [ha.eval hx]
  simp [go_sem]
theorem ST.alloc {t : TypeId} {cs : Array Value} (ho : o.op = .alloc t) (hz : (P.info? t).map (·.zero) = some (some (.agg cs)))
    (h : ∀ g w1, g = w.heap.size → w1.heap[g]? = some (.cells cs t (0, 0)) → Below w.heap.size w w1 → K (.pointer (some ⟨g, 0, none⟩)) w1) : ST P Q N env w o K := by
  refine ST.ev (v := .pointer (some ⟨w.heap.size, 0, none⟩)) (w1 := w.alloc (.cells cs t (0, 0))) (fun a ha => ?_) (h _ _ rfl (blk_new w _) (below_alloc (Below.refl _ _) _))
  cases hq : P.info? t with
  | none => simp [hq] at hz
  | some i =>
    have hi : i.zero = some (.agg cs) := by simpa [hq] using hz
    unfold execOp; rw [ho]; simp only []
    simp [go_sem, zeroValue, typeInfo, hq, hi]
theorem ST.call {f : FuncId} {xs : List Operand} {ts : Array TypeId} {vs : List Value}
    (ho : o.op = .call { callee := .value (.func f), args := xs.toArray, argTypes := ts }) (hf : ∀ args W, (callFunc f args).run P W = .ok (.enter f args) W) (hx : EvL env xs vs)
    (hc : Calls P f vs.toArray w (fun e w' => ∃ v, e = .returned v ∧ K v w')) : ST P Q N env w o K := by
  intro a ha Kc hK
  have hr : (execOp a.eval o).run P w = .ok (.enter f vs.toArray) w := by
    have e := ha.evalL hx
    have ef : a.eval (.func f) = .func (.func f) #[] #[] := rfl
    generalize a.eval = ρ at e ef ⊢
    unfold execOp; rw [ho]
    simp [go_sem, e, ef, hf]
  unfold Oper.wp
  rw [hr]
  refine hc.mono ?_
  rintro e w' ⟨v, rfl, h⟩
  exact hK _ _ h
/-- One cell is written. -/
theorem ST.store {ty : TypeId} {x y : Operand} {b i : Nat} {k : IntKind} {n : Int} {cs cs' : Array Value} {t : TypeId} (ho : o.op = .store ty x y) (hz : Sized P ty) (hz1 : P.cellsOf ty = 1) (hx : Ev env x (.pointer (some ⟨b, i, none⟩))) (hy : Ev env y (.int k n))
    (hb : w.heap[b]? = some (.cells cs t (0, 0))) (hi : Nat.blt i cs.size = true) (hcs : cs.setIfInBounds i (.int k n) = cs') (h : ∀ w1, w1.heap[b]? = some (.cells cs' t (0, 0)) → w.grownBy w1 (some b) → K undef w1) : ST P Q N env w o K := by
  intro a ha Kc hK
  have hi' : i < cs.size := by simpa [Nat.blt_eq] using hi
  have h1 : w.cell? ⟨b, i, none⟩ = some cs[i] := by rw [blk_cell hb, Array.getElem?_eq_getElem hi']
  have h2 : w.frozen? ⟨b, i, none⟩ = false := blk_frozen hb i
  have hr : (execOp a.eval o).run P w = .ok .skip (w.setCell ⟨b, i, none⟩ (.int k n)) := by
    unfold execOp; rw [ho]; simp only []; rw [ha.eval hx, ha.eval hy]
    obtain ⟨inf, q1, q2⟩ := hz
    simp [go_sem, run_sizeOf w q1, hz1, h1, h2]
  unfold Oper.wp
  rw [hr]
  exact hK undef _ (h _ (by rw [blk_set hb, hcs]) (gb_set (World.grownBy.refl w _) (.inr rfl) _))
/-- A whole struct is written into a variable of its own. -/
theorem ST.store_whole {ty : TypeId} {x y : Operand} {b : Nat} {cells old : Array Value} {t : TypeId} (hd : o.dst = none) (hg : o.guard = none) (ho : o.op = .store ty x y) (hx : Ev env x (.pointer (some ⟨b, 0, none⟩))) (hy : Ev env y (.agg cells))
    (hb : w.heap[b]? = some (.cells old t (0, 0))) (hs : old.size = cells.size) (hi : (P.info? ty).map (·.size) = some cells.size) (h1 : cells.all (·.oneCell') = true)
    (h : ∀ w1, w1.heap[b]? = some (.cells cells t (0, 0)) → w.grownBy w1 (some b) → GL P ops Q N w1 rest env) : GL P ops Q N w (o :: rest) env := GL.store_whole hd hg ho hx hy hb hs hi h1 h
def EvP (env : Env) : List (Nat × Operand) → List (Nat × Value) → Prop
  | [], [] => True
  | x :: xs, v :: vs => (x.1 = v.1 ∧ Ev env x.2 v.2) ∧ EvP env xs vs
  | _, _ => False
theorem epn {env : Env} : EvP env [] [] := trivial
theorem epc {env : Env} {i : Nat} {x : Operand} {v : Value} {xs : List (Nat × Operand)} {vs : List (Nat × Value)} (h : Ev env x v) (k : EvP env xs vs) : EvP env ((i, x) :: xs) ((i, v) :: vs) := ⟨⟨rfl, h⟩, k⟩
theorem Holds.evalP {a : Act} (h : Holds N a env) : ∀ {xs : List (Nat × Operand)} {vs : List (Nat × Value)}, EvP env xs vs → xs.map (fun p => (p.1, a.eval p.2)) = vs
  | [], [], _ => rfl
  | x :: xs, v :: vs, e => by rw [List.map_cons, h.eval e.1.2, e.1.1, Holds.evalP h e.2]
/-- A struct is built. -/
theorem Runs.build {t : TypeId} {xs : List (Nat × Operand)} {vs : List (Nat × Value)} {v : Value} (ho : o.op = .build t xs.toArray) (hx : EvP env xs vs) (hr : ∀ W, (Instr.build t vs.toArray).run P W = .ok v W) : Runs P N env o w v := fun a w' ha hw => by
  have e := ha.evalP hx
  have hr' := hr w'
  generalize a.eval = ρ at e ⊢
  unfold execOp; rw [ho]
  simp only [List.map_toArray, e]
  rw [Sem.run_bind, hr']; rfl
/-- A slice of one is made. -/
theorem ST.lit {t : TypeId} {m : Nat} {xs : List (Nat × Operand)} {vs : List (Nat × Value)} {e : TypeId} {cs : Array Value} (ho : o.op = .buildSlice t m xs.toArray) (hx : EvP env xs vs)
    (hr : ∀ W, (Instr.buildSlice t m vs.toArray).run P W = .ok (.slice (some ⟨W.heap.size, 0, none⟩) m m) (W.alloc (.cells cs e (0, 0)))) (h : K (.slice (some ⟨w.heap.size, 0, none⟩) m m) (w.alloc (.cells cs e (0, 0)))) : ST P Q N env w o K := by
  refine ST.ev (fun a ha => ?_) h
  have e := ha.evalP hx
  have hr' := hr w
  generalize a.eval = ρ at e ⊢
  unfold execOp; rw [ho]
  simp only [List.map_toArray, e]
  rw [Sem.run_bind, hr']; rfl
/-- append(v, x), behind the making of the variadic's slice. -/
theorem ST.append {α : Type} (d : Kd α) {w0 : World} (base : Nat) {W : World} {s x : Operand} {t e : TypeId} {z : Value} {bytes : Nat}
    (ho : o.op = .call { callee := .builtin .append, args := #[s, x], argTypes := #[t, t] })
    (ht : P.underlying t = some (.slice e)) (hinfo : (P.info? e).map (fun i => (i.zero, i.size, i.bytes)) = some (some z, d.sz, bytes)) (hz : z.cells.size = d.sz) (hs0 : 0 < d.sz) (hb0 : 0 < bytes)
    {v : Value} {xs : List α} (p : α) {cs : List Value} {ok : Nat → Prop} (hs : Ev env s v) (hx : Ev env x (.slice (some ⟨W.heap.size, 0, none⟩) 1 1)) (hp : d.M W base (fun _ => False) p cs) (hfresh : ∀ k, W.heap.size ≤ k → ok k)
    (HO : d.R e W base ok v xs) (HB : Below base w0 W) (hbase : base ≤ W.heap.size) (hl : (xs.length + 1) * bytes ≤ 140737488355328)
    (h : ∀ v1 w1, d.R e w1 base ok v1 (xs ++ [p]) → Below base w0 w1 → W.grownBy w1 v.ownBlock → K v1 w1) : ST P Q N env (W.alloc (.cells cs.toArray e)) o K := by
  intro a ha Kc hK
  have h0 : Region.wanted { o with guard := none } (yielded #[] a.tmps) = true := rfl
  have := Kd.R_append_step (P := P) (ops := #[]) (o := { o with guard := none }) (a := a) (Q := Q) (Kc := Kc) d base h0 s x t e z bytes ho ht hinfo hz hs0 hb0 v xs p cs ok (fun _ => False) (ha.eval hs) (ha.eval hx) hp (fun _ hk => hk.elim) hfresh HO HB hbase hl (fun v1 w1 h1 h2 h3 _ => hK _ _ (h v1 w1 h1 h2 h3))
  rw [if_pos h0] at this
  exact this
/-! ### More that operations leave -/
theorem Runs.loadB {t : TypeId} {x : Operand} {b i : Nat} {k : IntKind} {v : Value} {cs : Array Value} {ty : TypeId} (ho : o.op = .load t x) (hx : Ev env x (.pointer (some ⟨b, i, none⟩))) (hu : P.underlying t = some (.int k)) (hb : w.heap[b]? = some (.cells cs ty (0, 0))) (hv : cs[i]? = some v) : Runs P N env o w v :=
  Runs.load ho hx hu (by rw [blk_cell hb, hv])
theorem Runs.max {x y : Operand} {ts : Array TypeId} {k : IntKind} {m n r : Int} (ho : o.op = .call { callee := .builtin .max, args := #[x, y], argTypes := ts }) (hx : Ev env x (.int k m)) (hy : Ev env y (.int k n)) (hr : mx m n = r) : Runs P N env o w (.int k r) := fun a w' ha hw => by
  have e1 := ha.eval hx
  have e2 := ha.eval hy
  generalize a.eval = ρ at e1 e2 ⊢
  subst hr
  unfold execOp; rw [ho]
  simp [go_sem, e1, e2, max_two, max2_int, mx]
theorem Runs.min {x y : Operand} {ts : Array TypeId} {k : IntKind} {m n r : Int} (ho : o.op = .call { callee := .builtin .min, args := #[x, y], argTypes := ts }) (hx : Ev env x (.int k m)) (hy : Ev env y (.int k n)) (hr : mn m n = r) : Runs P N env o w (.int k r) := fun a w' ha hw => by
  have e1 := ha.eval hx
  have e2 := ha.eval hy
  generalize a.eval = ρ at e1 e2 ⊢
  subst hr
  unfold execOp; rw [ho]
  simp [go_sem, e1, e2, min_two, min2_int, mn]
theorem Runs.quo {t u : TypeId} {x y : Operand} {k : IntKind} {m n r : Int} (ho : o.op = .binOp .quo t x y u) (hx : Ev env x (.int k m)) (hy : Ev env y (.int k n)) (h0 : n ≠ 0) (hb : k.wrap (m.tdiv n) = r) : Runs P N env o w (.int k r) := fun a w' ha hw => by
  unfold execOp; rw [ho]; simp only []; rw [ha.eval hx, ha.eval hy]
  subst hb
  simp [go_sem, h0]
theorem Runs.field {t : TypeId} {x : Operand} {i : Nat} {cs : Array Value} {v : Value} {fs : Array Field} {f : Field} {inf : TypeInfo} (ho : o.op = .field t x i) (hx : Ev env x (.agg cs)) (hr : ∀ W, (Instr.field t (.agg cs) i).run P W = .ok v W) : Runs P N env o w v := fun a w' ha hw => by
  have hr' := hr w'
  unfold execOp; rw [ho]; simp only []; rw [ha.eval hx]
  simp [Sem.run_bind, hr', go_sem]
end
end Go.Proofs.Ytbajpjnloikpdaa.E
