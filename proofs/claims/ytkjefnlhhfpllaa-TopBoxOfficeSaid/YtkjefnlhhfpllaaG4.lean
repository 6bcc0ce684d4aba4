/- Texts of this claim, put together: E29, A15, N6, A13, A14, N7, N8, A16, A17, A18, A19, A20, A21, A22, N9. -/
import Derived.Test.YtkjefnlhhfpllaaG3
import Derived.Shelf.SlSortCmp.WholeK
namespace Go.Proofs.Ytkjefnlhhfpllaa.E
open Go.RowKit Go.Proofs.YtkjefnlhhfpllaaW.PrintWords Go.Proofs.YtkjefnlhhfpllaaW.PrintMore
open Go.Proofs.Ytkjefnlhhfpllaa.T
set_option linter.unusedVariables false
set_option linter.unusedSimpArgs false
section
variable {F : Fence} {k : Nat} {P : Program} {ops : Array Oper} {Q : Exit → Act → World → Prop} {N : Nat} {w : World} {rest : List Oper} {env : Env} {o : Oper} {ds : List Deferred}
/-- Where a body leaves by a return. -/
def IxR {α : Type} (X : List α → World → Prop) : Code → List α → World → Prop
 | .ret, pre, W => X pre W
 | _, _, _ => False
/-- A range over a function whose body may return. -/
theorem CI.rangeX {α γ : Type} {g : Operand} {ps : Array Tmp} {assign body : Code} {gf : Nat} {lb : Array Value} {encs : α → Array Value} {S Sp : List α → Prop} {Mx : Nat} {w0 : World} {Kp : World → World → Prop}
  (h1 : 1 ≤ k) (hg : Ev env g (.func (.func gf) #[] lb)) (eg : ∀ args w, (callFunc gf args).run P w = .ok (.enter gf args) w)
  (hseq : SeqStopsK Fence.wide (k - 1) P gf lb encs Kp S Sp Mx w0) (hKt : ∀ {A B C : World}, Kp A B → Kp B C → Kp A C) (hKb : ∀ (W : World) (l : Nat) (o o' : Obj), w.heap.size ≤ l → W.heap[l]? = some o → o.isCells = false → o.isWalk = false → Kp W (W.putObj l o')) (hb0 : Below w0.heap.size w0 w) (hps : ∀ x, (encs x).size = ps.size)
  (I : List α → World → Prop) (X : List α → World → Prop) (hI : OwnFrom w.heap.size I) (hX : OwnFrom w.heap.size X) (h0 : I [] w) (envP : α → Env) (hP : ∀ x a, Holds N a env → Holds N { tmps := (ps.zip (encs x)).foldl (fun t (p, v) => t.setIfInBounds p v) a.tmps, defers := [] } (envP x))
  (envB : α → γ → Env) (RB : α → γ → World → Prop) (hRB : ∀ x c, OwnFrom w.heap.size (fun (_ : Unit) W => RB x c W))
  (hassign : ∀ (l : Nat) (pre : List α) (x : α) (W : World) (K : Act → World → Prop), I pre W → (∀ c W', KeepsFrom w.heap.size W W' → Kp W W' → I pre W' → RB x c W' → ∀ a', Holds N a' (envB x c) → K a' W') → CI (Fence.wide.inRound l) (k - 1 - 1) P assign (Exit.then K (fun _ _ _ => False)) N (envP x) W)
  (hbody : ∀ (l : Nat) (pre : List α) (x : α) (c : γ) (W : World), I pre W → RB x c W → pre.length < Mx → CI (Fence.wide.inRound l) (k - 1 - 1) P body (ownPostG w.heap.size Kp I (IxR X) (pre ++ [x]) W) N (envB x c) W)
  (hdone : ∀ (D : Nat) (xs : List α) (W : World), w.heap.size ≤ D → S xs → I xs W → W.heap[D]? = some (.deferred (some [])) → QD Q .normal N env [{ target := .collected D, args := #[] }] W)
  (hstop : ∀ (D : Nat) (pre : List α) (W : World), w.heap.size ≤ D → Sp pre → X pre W → W.heap[D]? = some (.deferred (some [])) → QD Q .ret N env [{ target := .collected D, args := #[] }] W) :
  CI Fence.wide k P (.rangeFunc g ps assign body) Q N env w := by
 intro a ha
 refine wpIn_rangeFunc_ownH rfl h1 (ha.eval hg) trivial eg hseq hKt hKb hb0 hps I (IxR X) hI (fun c => by
   cases c <;> first | exact hX | exact fun _ _ _ _ hs _ _ => hs) h0
  (fun x a' W => ∃ c, Holds N a' (envB x c) ∧ RB x c W) (fun x a' s A B row hs hgr hrow => ?_) (fun l pre x W K hi hK => ?_) (fun l pre x a' W _ _ hi hx hlt => ?_) (fun D xs W hD hs hi hk => ?_) (fun D c pre W hD hs h hk => ?_)
 ·obtain ⟨c, q1, q2⟩ := hs
  exact ⟨c, q1, hRB x c () A B row q2 hgr hrow⟩
 ·exact hassign l pre x W K hi (fun c W' q1 q2 q3 q4 a' q5 => hK a' W' q1 q2 q3 ⟨c, q5, q4⟩) _ (hP x a ha)
 ·obtain ⟨c, q1, q2⟩ := hx
  exact hbody l pre x c W hi q2 hlt a' q1
 ·have := hdone D xs W hD hs hi hk a ha
  rw [ha.defers]
  exact this
 ·cases c with
  | ret =>
   have := hstop D pre W hD hs h hk a ha
   rw [ha.defers]
   exact wpIn_ret this
  | _ => exact h.elim
theorem QD.result1 {fn : Func} {R : Ending → World → Prop} {D : Nat} {t : Tmp} {v : Value} (hk : w.heap[D]? = some (.deferred (some []))) (hf : fn.results = #[.tmp t]) (hv : look env t = some v) (h : R (.returned v) (w.putObj D (.deferred none))) :
  QD (bodyPostM F k P fn R) .ret N env [{ target := .collected D, args := #[] }] w := by
 intro a ha
 refine ⟨by simp, .inl ⟨_, _, rfl, run_takeDeferred hk, ?_⟩⟩
 have e1 : a.tmps.getD t undef = v := ha.eval (x := .tmp t) hv
 have hp' : a.tmps[t]?.getD undef = v := by simpa using e1
 refine ⟨v, ?_, h⟩
 show (results fn a.tmps).run P _ = _
 simp [results, hf, hp']
/-- Two variables are handed back: a struct, and a truth value. -/
theorem QD.result_cb {fn : Func} {R : Ending → World → Prop} {D : Nat} {p q : Tmp} {ty tb t t' : TypeId} {g h : Nat} {cs : Array Value} {d : TypeDesc} {b : Value} (hk : w.heap[D]? = some (.deferred (some []))) (hf : fn.results = #[.cell p ty, .cell q tb]) (hp : look env p = some (.pointer (some ⟨g, 0, none⟩))) (hq : look env q = some (.pointer (some ⟨h, 0, none⟩)))
  (hg : w.heap[g]? = some (.cells cs t (0, 0))) (hh : w.heap[h]? = some (.cells #[b] t' (0, 0))) (hu : P.underlying ty = some d) (hd : (match d with | .struct _ | .array _ _ => true | _ => false) = true) (hi : (P.info? ty).map (·.size) = some cs.size) (hb : P.underlying tb = some .bool)
  (hR : R (.returned (.tuple #[.agg cs, b])) (w.putObj D (.deferred none))) : QD (bodyPostM F k P fn R) .ret N env [{ target := .collected D, args := #[] }] w := by
 intro a ha
 refine ⟨by simp, .inl ⟨_, _, rfl, run_takeDeferred hk, ?_⟩⟩
 have hne : g ≠ D := fun e => by subst e; rw [hg] at hk; cases hk
 have hne2 : h ≠ D := fun e => by subst e; rw [hh] at hk; cases hk
 have hg' : (w.putObj D (.deferred none)).heap[g]? = some (.cells cs t (0, 0)) := (World.putObj_heap_other hne).trans hg
 have hh' : (w.putObj D (.deferred none)).heap[h]? = some (.cells #[b] t' (0, 0)) := (World.putObj_heap_other hne2).trans hh
 have e1 : a.tmps.getD p undef = .pointer (some ⟨g, 0, none⟩) := ha.eval (x := .tmp p) hp
 have e2 : a.tmps.getD q undef = .pointer (some ⟨h, 0, none⟩) := ha.eval (x := .tmp q) hq
 have hp' : a.tmps[p]?.getD undef = .pointer (some ⟨g, 0, none⟩) := by simpa using e1
 have hq' : a.tmps[q]?.getD undef = .pointer (some ⟨h, 0, none⟩) := by simpa using e2
 have hc : (w.putObj D (.deferred none)).cell? ⟨h, 0, none⟩ = some b := by rw [blk_cell hh']; rfl
 have ha2 : ∀ W, (isAgg tb).run P W = .ok false W := fun W => by
  unfold isAgg
  rw [Sem.run_bind, run_underlying hb W]
  rfl
 have r2 : (loadVar tb ⟨h, 0, none⟩).run P (w.putObj D (.deferred none)) = .ok b (w.putObj D (.deferred none)) := by
  simp [loadVar, Sem.run_bind, ha2, go_sem, hc]
 refine ⟨.tuple #[.agg cs, b], ?_, hR⟩
 show (results fn a.tmps).run P _ = _
 simp [results, hf, hp', hq', asAddr, run_loadVar_row _ g t ty cs (0, 0) d hg' hu hd hi, r2]
/-! #### a region that draws, in a frame that has something to do at its end -/
def simpleOp : Op → Bool
 | .load _ _ => true
 | .store _ _ _ => true
 | _ => false
theorem simple_run {o : Oper} (hs : simpleOp o.op = true) (ρ : Operand → Value) (W : World) {n : Next} {W' : World} (h : (execOp ρ o).run P W = .ok n W') : (∃ v, n = .value v) ∨ n = .skip := by
 unfold execOp at h
 cases ho : o.op <;> rw [ho] at hs h <;> first | exact Bool.noConfusion hs | skip
 ·simp only [Sem.run_bind] at h
  generalize (Instr.loadAt _ _).run P W = r at h
  cases r with
  | ok v w2 => simp [Result.andThen] at h; exact .inl ⟨v, h.1.symm⟩
  | halt s w2 => simp [Result.andThen] at h
 ·simp only [Sem.run_bind] at h
  generalize (Instr.storeAt _ _ _).run P W = r at h
  cases r with
  | ok v w2 => simp [Result.andThen] at h; exact .inr h.1.symm
  | halt s w2 => simp [Result.andThen] at h
theorem put_def (a : Act) (ds : List Deferred) (d : Option Tmp) (v : Value) : ({ a with defers := ds } : Act).put d v = { a.put d v with defers := ds } := by cases d <;> rfl
theorem op_inD {a : Act} {K : Act → World → Prop} (hF : WF F) (hs : simpleOp o.op = true) (h1 : o.wp P a w (fun a' w' => K { a' with defers := ds } w') (fun e a' w' => Q e { a' with defers := ds } w')) : o.wpIn F k P { a with defers := ds } w K Q := by
 have hnd : noDefer o.op = true := by
  revert hs
  cases o.op <;> simp [simpleOp, noDefer]
 refine ⟨fun f _ => hF.f f, ?_⟩
 rw [semAt_any hnd]
 unfold Oper.wp at h1
 have hsr := fun n W' => simple_run (P := P) hs a.eval w (n := n) (W' := W')
 rw [show (execOp ({ a with defers := ds } : Act).eval o) = execOp a.eval o from rfl]
 generalize (execOp a.eval o).run P w = r at h1 hsr ⊢
 cases r with
 | ok x w' =>
  rcases hsr x w' rfl with ⟨v, rfl⟩ | rfl
  ·show K (({ a with defers := ds } : Act).put o.dst v) w'
   rw [put_def]
   exact h1
  ·show K (({ a with defers := ds } : Act).put o.dst undef) w'
   rw [put_def]
   exact h1
 | halt s w' => cases s <;> first | exact h1 | exact h1.elim
theorem wpAny_inD (hF : WF F) (hno : ∀ a w, ¬ Q .outgrown a w) (hl : (ops.toList.all fun o => simpleOp o.op) = true) {md : Region.Mode} : ∀ (fuel : Nat) (L : Array Bool) (a : Act) (w : World), wpAny P md ops (fun e a w => Q e { a with defers := ds } w) fuel L a w → wpAnyIn F k P md ops Q fuel L { a with defers := ds } w
 | 0, L, a, w, h => h
 | fuel + 1, L, a, w, h => by
  refine ⟨h.1, fun i hi => ?_⟩
  have h2 := h.2 i hi
  unfold wpOp at h2
  unfold wpOpIn
  cases ho : ops[i]? with
  | none => rw [ho] at h2; exact wpAny_inD hF hno hl fuel _ _ _ h2
  | some o =>
   rw [ho] at h2
   simp only at h2 ⊢
   have hs : simpleOp o.op = true := List.all_eq_true.mp hl o (by rw [Array.mem_toList_iff]; exact Array.mem_of_getElem? ho)
   split
   ·next hw =>
    rw [if_pos (by exact hw)] at h2
    rcases h2 with h2 | ⟨_, a', w', h2⟩
    ·exact op_inD hF hs (Oper.wp_mono (fun a w q => wpAny_inD hF hno hl fuel _ a w q) h2)
    ·exact absurd h2 (hno _ w')
   ·next hw =>
    rw [if_neg (by exact hw)] at h2
    refine ⟨fun f _ => hF.f f, ?_⟩
    have := wpAny_inD hF hno hl fuel _ _ _ h2
    rw [put_def]
    exact this
/-- A region that draws, with one write that comes last, in such a frame. -/
theorem CD.heldJ {id : Nat} (hF : WF F) (hno : ∀ a w, ¬ Q .outgrown a w) (hl : (ops.toList.all fun o => simpleOp o.op) = true) (b : Nat) (S1 S0 : World → World → Prop) (hb : Nat.blt b ops.size = true) (hm : P.follows .mixedOrders = true) (hS : ∀ v, S1 v v)
  (h : ∀ v, Below w.heap.size w v → GJ P ops (fun e a w => Q e { a with defers := ds } w) b (S1 v) (S0 v) N ops.size (Array.replicate ops.size false) env v) : CD F k P (.region id ops true) Q N env ds w := by
 intro a ha
 refine wpIn_region_any hm (wpAny_inD hF hno hl _ _ _ _ (wpAny_of_J (b := b) (S1 := S1 w.drew) (S0 := S0 w.drew) _ _ _ _ ?_))
 refine h w.drew (below_drew (Below.refl _ _)) a ha ?_
 refine (SJ.before ?_).mpr (hS _)
 have : b < ops.size := by simpa [Nat.blt_eq] using hb
 simp [this]
end
end Go.Proofs.Ytkjefnlhhfpllaa.E
namespace Go.Proofs.Ytkjefnlhhfpllaa.T
open Go.RowKit Go.Proofs.YtkjefnlhhfpllaaW.PrintWords Go.Proofs.YtkjefnlhhfpllaaW.PrintMore
open Go.Proofs.Ytkjefnlhhfpllaa.P
set_option linter.unusedVariables false
set_option linter.unusedSimpArgs false

/-- The first so many slots are dark. -/
def rp (m n : Nat) : List Value := List.replicate m (.int .i64 (-1)) ++ List.replicate (n - m) (.int .i64 0)
theorem rp_zero (n : Nat) : rp 0 n = List.replicate n (.int .i64 0) := by simp [rp]
theorem rp_full (n : Nat) : rp n n = (List.replicate n (-1 : Int)).map (Value.int .i64) := by simp [rp]
theorem rp_len {m n : Nat} (h : m ≤ n) : (rp m n).length = n := by simp [rp]; omega
theorem rp_copy {m n k : Nat} (h : m + k ≤ n) : (rp m n).take m ++ (List.replicate k (.int .i64 (-1)) ++ (rp m n).drop (m + (List.replicate k (Value.int .i64 (-1))).length)) = rp (m + k) n := by
 unfold rp
 rw [List.length_replicate, List.take_left' (by simp), List.drop_append, List.length_replicate, List.drop_eq_nil_of_le (by simp), List.nil_append, Nat.add_sub_cancel_left, List.drop_replicate, ← List.append_assoc, List.replicate_append_replicate, Nat.sub_sub]
theorem rp_at {m n j : Nat} (h : j < m) : (rp m n)[j]? = some (.int .i64 (-1)) := by
 unfold rp
 rw [List.getElem?_append_left (by simpa using h)]
 simp [h]
set_option maxRecDepth 100000 in
set_option maxHeartbeats 8000000 in

theorem mul64_calls (x y : Nat) (w : World) (hx : x < 65536) (hy : y < 65536) :
  Calls Try.prog 80 #[.int .u64 (x : Int), .int .u64 (y : Int)] w fun e w' => e = .returned (.tuple #[.int .u64 0, .int .u64 ((x * y : Nat) : Int)]) ∧ Below w.heap.size w w' := by
 have hxy : x * y ≤ 65535 * 65535 := Nat.mul_le_mul (by omega) (by omega)
 have hxy2 : x * y < 2 ^ 32 := by omega
 refine E.enter (N := 51) Try.func80 rfl Try.ntmps80 (args := [.int .u64 (x : Int), .int .u64 (y : Int)]) (by simp) ?_
 have L := Below.refl w.heap.size w
 refine E.cs (E.cl (E.ga rfl rfl rfl (E.ga rfl rfl rfl (E.gd (E.qc (E.cs (E.cl (E.gm rfl rfl rfl (E.gr rfl (E.Runs.low32 (a := x) rfl rfl rfl (by omega)) ?_)))))))))
 refine E.ga rfl rfl rfl (E.gd (E.qc (E.cs (E.cl (E.gm rfl rfl rfl (E.gr rfl (E.Runs.hi32 (a := x) rfl rfl rfl (by omega)) ?_))))))
 refine E.ga rfl rfl rfl (E.gd (E.qc (E.cs (E.cl (E.gm rfl rfl rfl (E.gr rfl (E.Runs.low32 (a := y) rfl rfl rfl (by omega)) ?_))))))
 refine E.ga rfl rfl rfl (E.gd (E.qc (E.cs (E.cl (E.gm rfl rfl rfl (E.gr rfl (E.Runs.hi32 (a := y) rfl rfl rfl (by omega)) ?_))))))
 refine E.ga rfl rfl rfl (E.gd (E.qc (E.cs (E.cl (E.gm rfl rfl rfl (E.gm rfl rfl rfl (E.gr rfl (E.Runs.mul rfl rfl rfl (show _ = ((x * y : Nat) : Int) from by rw [← Int.natCast_mul]; exact E.u64_in _ (by omega))) ?_)))))))
 refine E.ga rfl rfl rfl (E.gd (E.qc (E.cs (E.cl (E.gm rfl rfl rfl (E.gm rfl rfl rfl (E.gr rfl (E.Runs.mul rfl rfl rfl (show _ = (0 : Int) from by rw [Int.zero_mul]; decide)) ?_)))))))
 refine E.gm rfl rfl rfl (E.gr rfl (E.Runs.hi32 (a := x * y) rfl rfl rfl hxy2) ?_)
 refine E.gr rfl (E.Runs.add rfl rfl rfl (show _ = (0 : Int) from by decide)) ?_
 refine E.ga rfl rfl rfl (E.gd (E.qc (E.cs (E.cl (E.gm rfl rfl rfl (E.gr rfl (E.Runs.low32 (a := 0) rfl rfl rfl (by omega)) ?_))))))
 refine E.ga rfl rfl rfl (E.gd (E.qc (E.cs (E.cl (E.gm rfl rfl rfl (E.gr rfl (E.Runs.hi32 (a := 0) rfl rfl rfl (by omega)) ?_))))))
 refine E.ga rfl rfl rfl (E.gd (E.qc (E.cs (E.cl (E.gm rfl rfl rfl (E.gm rfl rfl rfl (E.gm rfl rfl rfl (E.gr rfl (E.Runs.mul rfl rfl rfl (show _ = (0 : Int) from by rw [Int.mul_zero]; decide)) ?_))))))))
 refine E.gr rfl (E.Runs.add rfl rfl rfl (show _ = (0 : Int) from by decide)) ?_
 refine E.ga rfl rfl rfl (E.gd (E.qc (E.cs (E.cl (E.gm rfl rfl rfl (E.gm rfl rfl rfl (E.gr rfl (E.Runs.mul rfl rfl rfl (show _ = (0 : Int) from by decide)) ?_)))))))
 refine E.gm rfl rfl rfl (E.gr rfl (E.Runs.add rfl rfl rfl (show _ = (0 : Int) from by decide)) ?_)
 refine E.gm rfl rfl rfl (E.gr rfl (E.Runs.hi32 (a := 0) rfl rfl rfl (by omega)) ?_)
 refine E.gr rfl (E.Runs.add rfl rfl rfl (show _ = (0 : Int) from by decide)) ?_
 refine E.ga rfl rfl rfl (E.gd (E.qc (E.cs (E.cl (E.gm rfl rfl rfl (E.gm rfl rfl rfl (E.gr rfl (E.Runs.mul rfl rfl rfl (show _ = ((x * y : Nat) : Int) from by rw [← Int.natCast_mul]; exact E.u64_in _ (by omega))) ?_)))))))
 refine E.ga rfl rfl rfl (E.gd (E.qc (E.CG.ret ?_)))
 exact E.QG.result2 rfl rfl rfl ⟨rfl, L⟩

set_option maxRecDepth 100000 in
set_option maxHeartbeats 8000000 in

theorem mul_calls (x y : Nat) (w : World) (hx : x < 65536) (hy : y < 65536) :
  Calls Try.prog 71 #[.int .u64 (x : Int), .int .u64 (y : Int)] w fun e w' => e = .returned (.tuple #[.int .u64 0, .int .u64 ((x * y : Nat) : Int)]) ∧ Below w.heap.size w w' := by
 refine E.enter (N := 30) Try.func71 rfl Try.ntmps71 (args := [.int .u64 (x : Int), .int .u64 (y : Int)]) (by simp) ?_
 have L := Below.refl w.heap.size w
 refine E.cs (E.cl (E.ga rfl rfl rfl (E.ga rfl rfl rfl (E.gd (E.qc (E.cs (E.CG.cond_f rfl (E.CG.skip (E.qc ?_)))))))))
 refine E.cs (E.cl (E.gm rfl rfl rfl (E.gm rfl rfl rfl ?_)))
 refine E.GL.st rfl rfl rfl (E.ST.call rfl ent80 (E.evc rfl (E.evc rfl E.evn)) ((mul64_calls x y _ hx hy).mono ?_))
 rintro e w25 ⟨rfl, l25⟩
 refine ⟨_, rfl, ?_⟩
 replace L := below_step L l25
 refine E.gm rfl rfl rfl (E.gr rfl (E.Runs.extract rfl rfl rfl) ?_)
 refine E.gr rfl (E.Runs.extract rfl rfl rfl) ?_
 refine E.ga rfl rfl rfl (E.ga rfl rfl rfl (E.gd (E.qc (E.cs (E.cl (E.gm rfl rfl rfl (E.gm rfl rfl rfl (E.ga rfl rfl rfl (E.ga rfl rfl rfl ?_)))))))))
 refine E.gd (E.qc (E.CG.ret ?_))
 exact E.QG.result2 rfl rfl rfl ⟨rfl, L⟩

set_option maxRecDepth 100000 in
set_option maxHeartbeats 8000000 in

theorem repeat_calls (g0 n : Nat) (w : World) (h1 : 1 ≤ n) (h8 : n ≤ 12) (b0 : w.heap[g0]? = some (.cells #[.int .i64 (-1)] 3 (0, 0))) :
  Calls Try.prog 57 #[.slice (some ⟨g0, 0, none⟩) 1 1, .int .i64 (n : Int)] w fun e w' => ∃ g, e = .returned (.slice (some ⟨g, 0, none⟩) n n) ∧ w'.heap[g]? = some (.cells ((List.replicate n (-1 : Int)).map (Value.int .i64)).toArray 3 (0, 0)) ∧ w.heap.size ≤ g ∧ Below w.heap.size w w' := by
 have hu3 := Try.underlying3
 have hu22 := Try.underlying22
 have hu123 := Try.underlying123
 obtain ⟨z3, o3⟩ := info_some info3s (by decide)
 refine E.enter (N := 48) Try.func57 rfl Try.ntmps57 (args := [.slice (some ⟨g0, 0, none⟩) 1 1, .int .i64 (n : Int)]) (by simp) ?_
 have L := Below.refl w.heap.size w
 refine E.cs (E.cl (E.ga rfl rfl rfl (E.gd (E.qc (E.cs (E.cs (E.cl (E.gm rfl rfl rfl (E.gr rfl (E.Runs.lss rfl rfl rfl (decide_eq_false (by omega))) ?_)))))))))
 refine E.gd (E.qc (E.CG.cond_f rfl (E.CG.skip (E.qc (E.cs (E.cl (E.gm rfl rfl rfl (E.gr rfl (E.Runs.len rfl rfl hu22) ?_))))))))
 refine E.gr rfl (E.Runs.conv (a := 1) hu123 hu3 (.inl rfl) rfl rfl (by omega)) ?_
 refine E.gm rfl rfl rfl (E.gr rfl (E.Runs.conv (a := n) hu123 hu3 (.inl rfl) rfl rfl (by omega)) ?_)
 refine E.GL.st rfl rfl rfl (E.ST.call rfl ent71 (E.evc rfl (E.evc rfl E.evn)) ((mul_calls 1 n _ (by omega) (by omega)).mono ?_))
 rintro e w18 ⟨rfl, l18⟩
 refine ⟨_, rfl, ?_⟩
 replace L := below_step L l18
 rw [Nat.one_mul]
 refine E.gm rfl rfl rfl (E.gr rfl (E.Runs.extract rfl rfl rfl) ?_)
 refine E.gr rfl (E.Runs.extract rfl rfl rfl) ?_
 refine E.ga rfl rfl rfl (E.ga rfl rfl rfl (E.gd (E.qc (E.cs (E.cs (E.cl (E.gm rfl rfl rfl (E.gr rfl (E.Runs.gtr rfl rfl rfl (decide_eq_false (by omega))) ?_))))))))
 refine E.gm rfl rfl rfl (E.gm rfl rfl rfl (E.gr rfl (E.Runs.gtr rfl rfl rfl (decide_eq_false (by omega))) ?_))
 refine E.gr rfl (E.Runs.pick_f rfl rfl rfl) ?_
 refine E.gd (E.qc (E.CG.cond_f rfl (E.CG.skip (E.qc (E.cs (E.cl (E.gm rfl rfl rfl (E.gr rfl (E.Runs.conv (a := n) hu3 hu123 (.inr rfl) rfl rfl (by omega)) ?_))))))))
 refine E.GL.st rfl rfl rfl (E.ST.makeC (m := n) rfl rfl rfl hu22 info3 rfl (by decide) (by omega) fun g30 w30 e30 b30 l30 => ?_)
 have h30_L : w.heap.size ≤ g30 := by rw [e30]; exact L.size
 have b0' := blk_below b0 L
 have hg0 := blk_lt b0'
 replace L := below_step L l30
 have hne : g0 ≠ g30 := by omega
 replace b0' := blk_below b0' l30
 rw [← rp_zero] at b30
 refine E.ga rfl rfl rfl (E.gd (E.qc (E.cs (E.cl (E.gm rfl rfl rfl (E.gm rfl rfl rfl ?_))))))
 refine E.GL.st rfl rfl rfl (E.ST.copy (cs := List.replicate 1 (.int .i64 (-1))) (all := rp 0 n) rfl rfl rfl hu22 info3s b30 (show 1 = Nat.min 1 n from (Nat.min_eq_left h1).symm) (fun _ => ⟨_, rfl, fun j v hj => by rw [Addr.add_mid, blk_cell b0']; rcases j with _ | j; exact hj; simp at hj⟩) (by rw [rp_len (by omega)]; simp; omega) (by simp [Value.oneCell']) (rp_copy (by omega)) fun w33 c33 gr33 => ?_)
 replace b30 := c33
 replace L := E.below_own L h30_L gr33
 clear c33
 refine E.ga rfl rfl rfl (E.gd (E.qc (E.cs (E.CG.block ?_))))
 have s8_L := L
 refine E.CG.loop (fun (q : Nat) => [(7, .slice (some ⟨g30, 0, none⟩) n n), (8, .int .i64 ((q : Nat) : Int))]) (fun q w' => 1 ≤ q ∧ q ≤ n ∧ w'.heap[g30]? = some (.cells (rp q n).toArray 3 (0, 0)) ∧ Below w.heap.size w w') (fun q => n - q) 1 (E.subc rfl (E.subc rfl E.subn)) ⟨Nat.le_refl _, h1, b30, L⟩ ?_
 rintro q w8 ⟨hq1, hq, b30, L⟩
 have hg30 : w.heap.size ≤ g30 := h30_L
 refine E.cs (E.cs (E.cl (E.gm rfl rfl rfl (E.gm rfl rfl rfl (E.gr rfl (E.Runs.len rfl rfl hu22) ?_)))))
 refine E.GL.cmp rfl rfl rfl (fun _ h => (E.Runs.lss rfl rfl rfl h)) (fun h37 => ?_) (fun h37 => ?_)
 ·refine E.gd (E.qc (E.CG.cond_t rfl (E.CG.skip (E.qc (E.CG.block (E.CG.heldJ 7 (fun v W => v.grownBy W (some g30)) (fun _ _ => True) (by kernel_rfl) (by kernel_rfl) (fun v => World.grownBy.refl _ _) fun v9 lD => ?_))))))
  replace b30 := blk_below b30 lD
  replace L := below_step L lD
  have lD9 := lD
  clear lD
  have s_b30 := b30
  have s_L := L
  have hh : v9.grownBy v9 (some g30) := World.grownBy.refl _ _
  refine E.GJ.take2 (i := 0) rfl (by kernel_rfl) (by kernel_rfl) (by kernel_rfl) (by kernel_rfl) (by intro c a d v w h; first | (cases d <;> exact h) | exact nomatch (show _ ∧ _ from h).1) rfl rfl rfl (fun w' hS => (E.Runs.move rfl rfl)) ?_
  refine E.GJ.take1t (i := 1) 3 rfl (by kernel_rfl) (by kernel_rfl) (by kernel_rfl) (by kernel_rfl) rfl (by kernel_rfl) rfl (by kernel_rfl) (by kernel_rfl) (by kernel_rfl) (by kernel_rfl) (by kernel_rfl) (by intro c a d v w h; first | (cases d <;> exact h) | exact nomatch (show _ ∧ _ from h).1) rfl rfl rfl (fun w' hS => (E.Runs.move rfl rfl)) ?_
  refine E.GJ.take1t (i := 2) 3 rfl (by kernel_rfl) (by kernel_rfl) (by kernel_rfl) (by kernel_rfl) rfl (by kernel_rfl) rfl (by kernel_rfl) (by kernel_rfl) (by kernel_rfl) (by kernel_rfl) (by kernel_rfl) (by intro c a d v w h; first | (cases d <;> exact h) | exact nomatch (show _ ∧ _ from h).1) rfl rfl rfl (fun w' hS => (E.Runs.move rfl rfl)) ?_
  refine E.GJ.take1 (i := 3) rfl (by kernel_rfl) (by kernel_rfl) (by kernel_rfl) (by kernel_rfl) rfl (by kernel_rfl) (by kernel_rfl) (by intro c a d v w h; first | (cases d <;> exact h) | exact nomatch (show _ ∧ _ from h).1) rfl rfl rfl (fun w' hS => (E.Runs.sliceFrom (i := q) (q := some ⟨g30, q, none⟩) rfl rfl rfl hu22 z3 o3 (by omega) (Nat.le_refl _) (by rw [if_neg (by omega)]; simp [Go.Addr.add_mid]))) ?_
  refine E.GJ.take1t (i := 4) 6 rfl (by kernel_rfl) (by kernel_rfl) (by kernel_rfl) (by kernel_rfl) rfl (by kernel_rfl) rfl (by kernel_rfl) (by kernel_rfl) (by kernel_rfl) (by kernel_rfl) (by kernel_rfl) (by intro c a d v w h; first | (cases d <;> exact h) | exact nomatch (show _ ∧ _ from h).1) rfl rfl rfl (fun w' hS => (E.Runs.move rfl rfl)) ?_
  refine E.GJ.take1t (i := 5) 6 rfl (by kernel_rfl) (by kernel_rfl) (by kernel_rfl) (by kernel_rfl) rfl (by kernel_rfl) rfl (by kernel_rfl) (by kernel_rfl) (by kernel_rfl) (by kernel_rfl) (by kernel_rfl) (by intro c a d v w h; first | (cases d <;> exact h) | exact nomatch (show _ ∧ _ from h).1) rfl rfl rfl (fun w' hS => (E.Runs.move rfl rfl)) ?_
  refine E.GJ.take1 (i := 6) rfl (by kernel_rfl) (by kernel_rfl) (by kernel_rfl) (by kernel_rfl) rfl (by kernel_rfl) (by kernel_rfl) (by intro c a d v w h; first | (cases d <;> exact h) | exact nomatch (show _ ∧ _ from h).1) rfl rfl rfl (fun w' hS => (E.Runs.sliceTo rfl rfl rfl hu22 z3 (by omega))) ?_
  refine E.GJ.one (i := 7) (by kernel_rfl) (E.OJ.st rfl rfl rfl rfl (E.ST.copy (cs := List.replicate (min (n - q) q) (.int .i64 (-1))) (all := rp q n) rfl rfl rfl hu22 info3s b30 (by rw [List.length_replicate]; exact (Nat.min_comm _ _)) (fun _ => ⟨_, rfl, fun j v hj => by rw [Addr.add_mid, Nat.zero_add, blk_cell b30]; rw [List.getElem?_replicate] at hj; split at hj; (obtain rfl := Option.some.inj hj; simpa using rp_at (show j < q by omega)); cases hj⟩) (by rw [rp_len (by omega), List.length_replicate]; omega) (by intro v hv; rw [List.eq_of_mem_replicate hv]; rfl) (rp_copy (by omega)) fun w45 c45 gr45 => ⟨(E.SJ.behind (by kernel_rfl)).mpr trivial, ?_⟩))
  replace b30 := c45
  replace L := E.below_own L hg30 gr45
  clear c45
  refine E.GJ.one (i := 8) (by kernel_rfl) (E.OJ.st rfl rfl rfl rfl (E.ST.reads (E.Runs.add rfl rfl rfl (show _ = ((q + (min (n - q) q) : Nat) : Int) from by rw [List.length_replicate, ← Int.natCast_add]; exact IntWalk.i64_in _ (by omega))) ⟨(E.SJ.behind (by kernel_rfl)).mpr trivial, ?_⟩))
  refine E.GJ.one (i := 9) (by kernel_rfl) (E.OJ.st rfl rfl rfl rfl (E.ST.reads (E.Runs.assign rfl rfl) ⟨(E.SJ.behind (by kernel_rfl)).mpr trivial, ?_⟩))
  refine E.GJ.done (by kernel_rfl) ?_
  refine E.QG.block_normal ?_
  exact E.QG.round (q + (min (n - q) q)) (E.subc rfl (E.subc rfl E.subn)) ⟨by omega, by omega, b30, L⟩ (by omega)
 ·obtain rfl : n = q := by omega
  refine E.gd (E.qc (E.CG.cond_f rfl (E.CG.exit (E.QG.pass_exit (E.QG.pass_exit (E.QG.block_here (E.qc (E.cs (E.cl ?_)))))))))
  refine E.gm rfl rfl rfl (E.ga rfl rfl rfl (E.gd (E.qc (E.CG.ret ?_))))
  exact E.QG.result rfl rfl ⟨g30, rfl, by rw [← rp_full]; exact b30, h30_L, L⟩

end Go.Proofs.Ytkjefnlhhfpllaa.T
namespace Go.Proofs.Ytkjefnlhhfpllaa.T
open Go.RowKit Go.Proofs.YtkjefnlhhfpllaaW.PrintWords Go.Proofs.YtkjefnlhhfpllaaW.PrintMore
open Go.Proofs.Ytkjefnlhhfpllaa.P
set_option linter.unusedVariables false
set_option linter.unusedSimpArgs false
def sortC_ren : Go.Shelf.Ren := ⟨fun | 6 => 59 | 15 => 74 | 14 => 73 | 28 => 89 | 29 => 90 | 20 => 81 | 21 => 82 | 22 => 83 | 23 => 84 | 24 => 85 | 25 => 86 | 26 => 87 | 27 => 88 | 46 => 93 | 47 => 94 | 48 => 95 | 49 => 96 | 50 => 97 | 57 => 101 | n => n, fun | 22 => 25 | 24 => 64 | 25 => 103 | 3 => 3 | 39 => 123 | 0 => 0 | 53 => 134 | 55 => 137 | 4 => 4 | 46 => 142 | 45 => 141 | 50 => 146 | 5 => 5 | 9 => 9 | 66 => 152 | 70 => 156 | 76 => 160 | 77 => 161 | n => n, fun | n => n⟩
theorem sortC : Go.Proofs.SlLaysF0.n6 Try.prog sortC_ren := {
 mixed := by kernel_rfl
 f6 := ⟨Try.f59.name, by decide, Try.func59.trans (congrArg some (by kernel_rfl))⟩
 f14 := ⟨Try.f73.name, by decide, Try.func73.trans (congrArg some (by kernel_rfl))⟩
 f15 := Try.func74.trans (congrArg some (by kernel_rfl))
 f20 := ⟨Try.f81.name, by decide, Try.func81.trans (congrArg some (by kernel_rfl))⟩
 f21 := ⟨Try.f82.name, by decide, Try.func82.trans (congrArg some (by kernel_rfl))⟩
 f22 := ⟨Try.f83.name, by decide, Try.func83.trans (congrArg some (by kernel_rfl))⟩
 f23 := ⟨Try.f84.name, by decide, Try.func84.trans (congrArg some (by kernel_rfl))⟩
 f24 := ⟨Try.f85.name, by decide, Try.func85.trans (congrArg some (by kernel_rfl))⟩
 f25 := ⟨Try.f86.name, by decide, Try.func86.trans (congrArg some (by kernel_rfl))⟩
 f26 := ⟨Try.f87.name, by decide, Try.func87.trans (congrArg some (by kernel_rfl))⟩
 f27 := ⟨Try.f88.name, by decide, Try.func88.trans (congrArg some (by kernel_rfl))⟩
 f28 := Try.func89.trans (congrArg some (by kernel_rfl))
 f29 := Try.func90.trans (congrArg some (by kernel_rfl))
 f46 := ⟨Try.f93.name, by decide, Try.func93.trans (congrArg some (by kernel_rfl))⟩
 f47 := Try.func94.trans (congrArg some (by kernel_rfl))
 f48 := Try.func95.trans (congrArg some (by kernel_rfl))
 f49 := ⟨Try.f96.name, by decide, Try.func96.trans (congrArg some (by kernel_rfl))⟩
 f50 := ⟨Try.f97.name, by decide, Try.func97.trans (congrArg some (by kernel_rfl))⟩
 f57 := ⟨Try.f101.name, by decide, Try.func101.trans (congrArg some (by kernel_rfl))⟩
 t0 := Try.underlying0
 a0 := Try.isAgg0
 z0 := Try.sizeOf0
 v0 := Try.zeroValue0
 t3 := Try.underlying3
 a3 := Try.isAgg3
 z3 := Try.sizeOf3
 v3 := Try.zeroValue3
 t4 := Try.underlying4
 a4 := Try.isAgg4
 z4 := Try.sizeOf4
 v4 := Try.zeroValue4
 t5 := Try.underlying5
 a5 := Try.isAgg5
 z5 := Try.sizeOf5
 v5 := Try.zeroValue5
 t9 := Try.underlying9
 a9 := Try.isAgg9
 z9 := Try.sizeOf9
 v9 := Try.zeroValue9
 t22 := Try.underlying25
 a22 := Try.isAgg25
 z22 := Try.sizeOf25
 v22 := Try.zeroValue25
 t25 := Try.underlying103
 a25 := Try.isAgg103
 z25 := Try.sizeOf103
 v25 := Try.zeroValue103
 t39 := Try.underlying123
 a39 := Try.isAgg123
 z39 := Try.sizeOf123
 v39 := Try.zeroValue123
 t45 := Try.underlying141
 a45 := Try.isAgg141
 z45 := Try.sizeOf141
 v45 := Try.zeroValue141
 t46 := Try.underlying142
 a46 := Try.isAgg142
 z46 := Try.sizeOf142
 v46 := Try.zeroValue142
 t50 := Try.underlying146
 a50 := Try.isAgg146
 z50 := Try.sizeOf146
 v50 := Try.zeroValue146
 t53 := Try.underlying134
 a53 := Try.isAgg134
 z53 := Try.sizeOf134
 v53 := Try.zeroValue134
 t55 := Try.underlying137
 a55 := Try.isAgg137
 z55 := Try.sizeOf137
 v55 := Try.zeroValue137
 t66 := Try.underlying152
 a66 := Try.isAgg152
 z66 := Try.sizeOf152
 v66 := Try.zeroValue152
 t70 := Try.underlying156
 a70 := Try.isAgg156
 z70 := Try.sizeOf156
 v70 := Try.zeroValue156
 t76 := Try.underlying160
 a76 := Try.isAgg160
 z76 := Try.sizeOf160
 v76 := Try.zeroValue160
 t77 := Try.underlying161
 a77 := Try.isAgg161
 z77 := Try.sizeOf161
 v77 := Try.zeroValue161 }

/-- A valid call. -/
abbrev Lc := {x : S64 // LOk x}
instance : Inhabited Lc := ⟨⟨⟨0, 0, 2, 0, 0⟩, ⟨⟨by decide, by decide⟩, ⟨by decide, by decide⟩, ⟨by decide, by decide⟩⟩, .inr ⟨.inl rfl, rfl⟩⟩⟩
def encL (x : Lc) : List Value := lC x.1
def cfL (x y : Lc) : Int := if x.1.f1 - y.1.f1 ≠ 0 then x.1.f1 - y.1.f1 else x.1.f0 - y.1.f0
/-- One call is heard ahead of another. -/
def ltL (x y : S64) : Bool := decide (x.f1 < y.f1 ∨ x.f1 = y.f1 ∧ x.f0 < y.f0)
theorem ltL_of (x y : Lc) : Go.Proofs.ltOf cfL x y = ltL x.1 y.1 := by
 unfold Go.Proofs.ltOf cfL ltL
 split <;> simp only [decide_eq_decide] <;> omega
theorem swoL : Go.Sort.SWO (Go.Proofs.ltOf cfL) where
 irrefl x := by rw [ltL_of]; unfold ltL; simp
 trans x y z h1 h2 := by rw [ltL_of] at *; unfold ltL at *; simp only [decide_eq_true_eq] at *; omega
 ntrans x y z h1 h2 := by rw [ltL_of] at *; unfold ltL at *; simp only [decide_eq_false_iff_not] at *; omega
/-- Calls in the order in which they are heard: a permutation, sorted. -/
def Srtd (l l' : List S64) : Prop := l'.Perm l ∧ ∀ (i j : Nat) x y, i < j → l'[i]? = some x → l'[j]? = some y → ltL y x = false
theorem flat_len (l : List S64) : (l.flatMap lC).length = l.length * 5 := by
 induction l with
 | nil => rfl
 | cons x r ih => rw [List.flatMap_cons, List.length_append, ih]; simp; omega
theorem row64 {w : World} {base g n c : Nat} {l : List S64} (R : Kd.R k64 64 w base (fun _ => True) (.slice (some ⟨g, 0, none⟩) n c) l) : ∃ cur, w.heap[g]? = some (.cells cur 64 (0, 0)) ∧ base ≤ g ∧ n = l.length ∧ n ≤ c ∧ c ≤ maxLen ∧ cur.size = c * 5 ∧ cur.toList.take (n * 5) = l.flatMap lC := by
 have hn := (Kd.R_reads' R).1
 obtain ⟨_, inner, ho, hr⟩ := R
 obtain ⟨h1, h2⟩ := ho
 rcases h2 with ⟨h, _⟩ | ⟨g', cap, cur, h, hb, hh, q1, q2, q3, q4⟩
 ·cases h
 ·injection h with h3 h4 h5
  injection h3 with h3
  injection h3 with h3
  subst h3 h5
  refine ⟨cur, hh, hb, hn, by omega, q2, q3, ?_⟩
  have h4' : n = l.length := hn
  have q4' : cur.toList.take (l.length * 5) = inner := q4
  rw [h4', q4']
  refine List.ext_getElem? fun t => ?_
  by_cases ht : t < l.length * 5
  ·obtain ⟨x, hx⟩ := get_ex (show t / 5 < l.length by omega)
   have := hr.2 (t / 5) x hx
   have hk := k64_openM this
   have e : inner[t]? = (lC x)[t % 5]? := by
    have := congrArg (fun z => z[t % 5]?) hk
    rw [List.getElem?_take, if_pos (show t % 5 < k64.sz from Nat.mod_lt _ (by decide)), List.getElem?_drop] at this
    rw [← this]
    congr 1
    show t = t / 5 * 5 + t % 5
    omega
   rw [e, ← flat_get (f := lC) (k := 5) (fun _ => rfl) l (t / 5) x (t % 5) hx (Nat.mod_lt _ (by decide))]
   congr 1
   omega
  ·rw [List.getElem?_eq_none (by rw [hr.1]; show l.length * 5 ≤ t; omega), List.getElem?_eq_none]
   rw [flat_len]
   omega
theorem row64_mk {w : World} {base g n c : Nat} {l : List S64} {cur : Array Value} (h1 : w.heap[g]? = some (.cells cur 64 (0, 0))) (h2 : base ≤ g) (h3 : n = l.length) (h4 : n ≤ c) (h5 : c ≤ maxLen) (h6 : cur.size = c * 5) (h7 : cur.toList.take (n * 5) = l.flatMap lC) : Kd.R k64 64 w base (fun _ => True) (.slice (some ⟨g, 0, none⟩) n c) l := by
 subst h3
 refine ⟨fun _ _ => trivial, l.flatMap lC, ⟨flat_len l, .inr ⟨g, c, cur, rfl, h2, h1, h4, h5, h6, h7⟩⟩, flat_len l, fun j x hx => ?_⟩
 have e : ((l.flatMap lC).drop (j * k64.sz)).take k64.sz = lC x := by
  refine List.ext_getElem? fun i => ?_
  by_cases hi : i < 5
  ·rw [List.getElem?_take, if_pos (show i < k64.sz from hi), List.getElem?_drop]
   exact flat_get (f := lC) (k := 5) (fun _ => rfl) l j x i hx hi
  ·rw [List.getElem?_eq_none (by rw [List.length_take]; show min 5 _ ≤ i; omega), List.getElem?_eq_none (by show 5 ≤ i; omega)]
 rw [e]
 exact k64_mkM _ _ _ _
end Go.Proofs.Ytkjefnlhhfpllaa.T
namespace Go.Proofs.Ytkjefnlhhfpllaa.T
open Go.RowKit Go.Proofs.YtkjefnlhhfpllaaW.PrintWords Go.Proofs.YtkjefnlhhfpllaaW.PrintMore
open Go.Proofs.Ytkjefnlhhfpllaa.P
set_option linter.unusedVariables false
set_option linter.unusedSimpArgs false

open Go.Sort (grow)
set_option maxRecDepth 100000 in
set_option maxHeartbeats 8000000 in

theorem or43 (a b : Int) (A : Addr) (c : Nat) (w : World) (hr : Kd.C kI w (some A) 2 [a, b]) :
  Calls Try.prog 43 #[.slice (some A) 2 c] w fun e w' => e = .returned (.int .i64 (if a ≠ 0 then a else b)) ∧ w' = w := by
 have hu3 := Try.underlying3
 have hu22 := Try.underlying22
 obtain ⟨z3, o3⟩ := info_some info3s (by decide)
 refine E.enter (N := 18) Try.func43 rfl Try.ntmps43 (args := [.slice (some A) 2 c]) (by simp) ?_
 
 refine E.cs (E.cl (E.ga rfl rfl rfl (E.gd (E.qc (E.cs (E.cl (E.ga rfl rfl rfl (E.gd (E.qc ?_)))))))))
 refine E.cs (E.cs (E.cl (E.gm rfl rfl rfl (E.gr rfl (E.Runs.len rfl rfl hu22) ?_))))
 refine E.gm rfl rfl rfl (E.gd (E.qc (E.CG.block (E.CG.loop (fun (i : Nat) => [(3, .int .i64 0), (6, .slice (some A) 2 c), (7, .int .i64 2), (8, .int .i64 i)]) (fun i w' => (i ≤ 2 ∧ ∀ j, j < i → ∀ x, [a, b][j]? = some x → x = 0) ∧ w' = w) (fun i => 2 - i) 0 (E.subc rfl (E.subc rfl (E.subc rfl (E.subc rfl E.subn)))) ⟨⟨Nat.zero_le _, fun j hj => by omega⟩, rfl⟩ ?_))))
 rintro i w3 ⟨⟨hi, hz⟩, rfl⟩
 refine E.cs (E.cl ?_)
 refine E.GL.cmp rfl rfl rfl (fun _ h => (E.Runs.lss rfl rfl rfl h)) (fun h9 => ?_) (fun h9 => ?_)
 ·obtain ⟨x, hx⟩ := get_ex (show i < [a, b].length by simp; omega)
  obtain ⟨ad, eA, X⟩ := int_at hr hx
  refine E.gd (E.qc (E.cs (E.CG.cond_t rfl (E.CG.skip (E.qc (E.cs (E.CG.block (E.cs (E.cl ?_)))))))))
  refine E.gr rfl (E.Runs.indexAddrA (i := i) rfl rfl rfl hu22 z3 o3 (by omega) eA rfl) ?_
  refine E.gr rfl (E.Runs.load rfl rfl hu3 X) ?_
  refine E.ga rfl rfl rfl (E.gd (E.qc (E.cs (E.cl (E.gm rfl rfl rfl (E.gm rfl rfl rfl ?_))))))
  refine E.GL.cmpn rfl rfl rfl (fun _ h => (E.Runs.neq rfl rfl rfl h)) (fun h14 => ?_) (fun h14 => ?_)
  ·refine E.gd (E.qc (E.CG.cond_t rfl (E.cs (E.cl (E.gm rfl rfl rfl (E.ga rfl rfl rfl (E.gd (E.qc (E.CG.ret ?_)))))))))
   refine E.QG.block_ret (E.QG.pass_ret (E.QG.pass_ret (E.QG.block_ret (E.QG.pass_ret ?_))))
   refine E.QG.result rfl rfl ⟨?_, rfl⟩
   rcases i with _ | _ | i
   ·simp at hx
    subst hx
    rw [if_pos h14]
   ·simp at hx
    subst hx
    rw [if_neg (by have := hz 0 (by omega) a rfl; omega)]
   ·omega
  ·refine E.gd (E.qc (E.CG.cond_f rfl (E.CG.skip (E.QG.block_normal (E.qc (E.cl (E.gr rfl (E.Runs.add rfl rfl rfl (IntWalk.i64_in _ (by omega))) ?_)))))))
   refine E.gm rfl rfl rfl (E.gd ?_)
   exact E.QG.round (i + 1) (E.subc rfl (E.subc rfl (E.subc rfl (E.subc rfl E.subn)))) ⟨⟨by omega, all_more hz hx h14⟩, rfl⟩ (by omega)
 ·refine E.gd (E.qc (E.cs (E.CG.cond_f rfl (E.CG.exit (E.QG.pass_exit (E.QG.pass_exit (E.QG.block_here (E.qc (E.cs ?_)))))))))
  refine E.cl (E.gm rfl rfl rfl (E.ga rfl rfl rfl (E.gd (E.qc (E.CG.ret ?_)))))
  refine E.QG.result rfl rfl ⟨?_, rfl⟩
  have q1 := hz 0 (by omega) a rfl
  have q2 := hz 1 (by omega) b rfl
  rw [q1, q2]
  rfl

set_option maxRecDepth 100000 in
set_option maxHeartbeats 8000000 in

theorem clo42 (x y : S64) (hx : LOk x) (hy : LOk y) (w : World) :
  Calls Try.prog 42 #[.agg #[.int .i64 x.f0, .int .i64 x.f1, .int .i64 x.f2, .int .i64 x.f3, .int .i64 x.f4], .agg #[.int .i64 y.f0, .int .i64 y.f1, .int .i64 y.f2, .int .i64 y.f3, .int .i64 y.f4]] w fun e w' => e = .returned (.int .i64 (if x.f1 - y.f1 ≠ 0 then x.f1 - y.f1 else x.f0 - y.f0)) ∧ ∃ q os', w' = grow (w.drewN q) os' := by
 have hu3 := Try.underlying3
 have hu22 := Try.underlying22
 have hu64 := Try.underlying64
 obtain ⟨z3, o3⟩ := info_some info3s (by decide)
 obtain ⟨z64, o64⟩ := info_some info64s (by decide)
 have hx1 := hx.n
 have hy1 := hy.n
 unfold inR at hx1 hy1
 refine E.enter (N := 17) Try.func42 rfl Try.ntmps42 (args := [.agg #[.int .i64 x.f0, .int .i64 x.f1, .int .i64 x.f2, .int .i64 x.f3, .int .i64 x.f4], .agg #[.int .i64 y.f0, .int .i64 y.f1, .int .i64 y.f2, .int .i64 y.f3, .int .i64 y.f4]]) (by simp) ?_
 
 refine E.cs (E.cl ?_)
 refine E.GL.st rfl rfl rfl (E.ST.boxX rfl rfl ?_)
 obtain ⟨w2, hw2⟩ : ∃ W, World.alloc w (.cells #[.int .i64 x.f0, .int .i64 x.f1, .int .i64 x.f2, .int .i64 x.f3, .int .i64 x.f4] 64 (0, 0)) = W := ⟨_, rfl⟩
 obtain ⟨g2, hg2⟩ : ∃ g, w.heap.size = g := ⟨_, rfl⟩
 have b2 : w2.heap[g2]? = some (.cells #[.int .i64 x.f0, .int .i64 x.f1, .int .i64 x.f2, .int .i64 x.f3, .int .i64 x.f4] 64 (0, 0)) := by rw [← hw2, ← hg2]; exact blk_new w _
 have l2 : Below w.heap.size w w2 := by rw [← hw2]; exact below_alloc (Below.refl _ _) _
 rw [hw2, hg2]
 refine E.GL.st rfl rfl rfl (E.ST.boxX rfl rfl ?_)
 obtain ⟨w3, hw3⟩ : ∃ W, World.alloc w2 (.cells #[.int .i64 y.f0, .int .i64 y.f1, .int .i64 y.f2, .int .i64 y.f3, .int .i64 y.f4] 64 (0, 0)) = W := ⟨_, rfl⟩
 obtain ⟨g3, hg3⟩ : ∃ g, w2.heap.size = g := ⟨_, rfl⟩
 have b3 : w3.heap[g3]? = some (.cells #[.int .i64 y.f0, .int .i64 y.f1, .int .i64 y.f2, .int .i64 y.f3, .int .i64 y.f4] 64 (0, 0)) := by rw [← hw3, ← hg3]; exact blk_new w2 _
 have l3 : Below w2.heap.size w2 w3 := by rw [← hw3]; exact below_alloc (Below.refl _ _) _
 rw [hw3, hg3]
 replace b2 := blk_below b2 l3
 refine E.ga rfl rfl rfl (E.gd (E.qc (E.cs (E.cl (E.gr rfl (E.Runs.fieldAddr rfl rfl hu64 rfl (by assumption) rfl) ?_)))))
 refine E.gr rfl (E.Runs.load rfl rfl hu3 (by first | assumption | exact E.blkc (by assumption) rfl)) ?_
 refine E.gr rfl (E.Runs.fieldAddr rfl rfl hu64 rfl (by assumption) rfl) ?_
 refine E.gr rfl (E.Runs.load rfl rfl hu3 (by first | assumption | exact E.blkc (by assumption) rfl)) ?_
 refine E.gr rfl (E.Runs.sub rfl rfl rfl (IntWalk.i64_in _ (by omega))) ?_
 refine E.gr rfl (E.Runs.fieldAddr rfl rfl hu64 rfl (by assumption) rfl) ?_
 refine E.gr rfl (E.Runs.load rfl rfl hu3 (by first | assumption | exact E.blkc (by assumption) rfl)) ?_
 refine E.gr rfl (E.Runs.fieldAddr rfl rfl hu64 rfl (by assumption) rfl) ?_
 refine E.gr rfl (E.Runs.load rfl rfl hu3 (by first | assumption | exact E.blkc (by assumption) rfl)) ?_
 refine E.gr rfl (E.Runs.sub rfl rfl rfl (IntWalk.i64_in _ (by omega))) ?_
 refine E.GL.st rfl rfl rfl (E.ST.lit rfl (E.epc rfl (E.epc rfl E.epn)) (lit22_2 _ _) ?_)
 refine E.GL.st rfl rfl rfl (E.ST.call rfl ent43 (E.evc rfl E.evn) ((or43 (x.f1 - y.f1) (x.f0 - y.f0) ⟨w3.heap.size, 0, none⟩ 2 _ (C_nums [x.f1 - y.f1, x.f0 - y.f0] (blk_new w3 _) (by simp))).mono ?_))
 rintro e w16 ⟨rfl, rfl⟩
 refine ⟨_, rfl, ?_⟩
 refine E.ga rfl rfl rfl (E.gd (E.qc (E.CG.ret ?_)))
 exact E.QG.result rfl rfl ⟨rfl, 0, _, by rw [← hw3, ← hw2, Go.Sort.alloc_eq_grow, Go.Sort.alloc_eq_grow, Go.Sort.alloc_eq_grow, Go.Sort.grow_grow, Go.Sort.grow_grow]; rfl⟩

theorem ent42' (args : Array Value) (W : World) : (callFunc 42 args).run Try.prog W = .ok (.enter 42 args) W := ent42 args W
/-- slices.SortFunc over a row of our own. -/
theorem sort59 (base g n c : Nat) (l : List S64) (w : World) (R : Kd.R k64 64 w base (fun _ => True) (.slice (some ⟨g, 0, none⟩) n c) l) (hl : ∀ x ∈ l, LOk x) (hn : n ≤ 1000000) :
  Calls Try.prog 59 #[.slice (some ⟨g, 0, none⟩) n c, .func (.func 42) #[] #[]] w fun e w' => e = .returned (.tuple #[]) ∧ ∃ l', Srtd l l' ∧ Kd.R k64 64 w' base (fun _ => True) (.slice (some ⟨g, 0, none⟩) n c) l' ∧ w.grownBy w' (some g) := by
 obtain ⟨cur, hb, hbase, hnl, hnc, hcm, hcs, htk⟩ := row64 R
 obtain ⟨d, hd⟩ : ∃ d : Array Lc, d = (l.attachWith LOk hl).toArray := ⟨_, rfl⟩
 have hdm : d.toList.map (·.1) = l := by rw [hd]; simp
 have hds : d.size = n := by rw [hnl, ← hdm]; simp
 have hget : ∀ (e : Array Lc) (i : Nat), i < e.size → (e.toList.map (·.1))[i]? = some (e[i]!).1 := fun e i hi => by
  rw [List.getElem?_map, Array.getElem?_toList, Array.getElem?_eq_getElem hi, getElem!_pos e i hi]
  rfl
 have hfl : ∀ (e : Array Lc) (t : Nat), t < e.size * 5 → ((e.toList.map (·.1)).flatMap lC)[t]? = some (Go.Sort.flatK encL 5 e)[t]! := fun e t ht => by
  rw [Go.Sort.get_flatK encL 5 e t ht]
  have h1 := flat_get (f := lC) (k := 5) (fun _ => rfl) (e.toList.map (·.1)) (t / 5) _ (t % 5) (hget e (t / 5) (by omega)) (Nat.mod_lt _ (by decide))
  rw [show t / 5 * 5 + t % 5 = t by omega] at h1
  rw [h1]
  have h2 : t % 5 < (lC (e[t / 5]!).1).length := Nat.mod_lt _ (by decide)
  rw [List.getElem?_eq_getElem h2]
  show _ = some ((lC (e[t / 5]!).1)[t % 5]!)
  rw [getElem!_pos (lC (e[t / 5]!).1) (t % 5) h2]
 have hcur : ∀ t, t < n * 5 → cur[t]? = ((d.toList.map (·.1)).flatMap lC)[t]? := fun t ht => by
  rw [hdm, ← htk, List.getElem?_take, if_pos ht, Array.getElem?_toList]
 have hH : Go.Sort.HoldsK encL 5 w g 0 d := fun j hj => by
  rw [Go.Sort.size_flatK, hds] at hj
  refine ⟨?_, blk_frozen hb _⟩
  rw [Nat.zero_add, blk_cell hb, hcur j hj, hfl d j (by rw [hds]; exact hj)]
  rfl
 have hlt : g < w.heap.size := (Array.getElem?_eq_some_iff.1 hb).1
 have hcon := Go.Proofs.AnyQ.slices_SortFunc sortC 5 Try.isAgg64 Try.sizeOf64 encL (fun _ => rfl) (fun x v hv => by simp [encL] at hv; rcases hv with rfl | rfl | rfl | rfl | rfl <;> rfl) cfL swoL 42 #[] g 0 c d w ent42' (fun m os dk _ x y => clo42 x.1 y.1 x.2 y.2 _) hH hlt (by rw [hds]; omega)
 change Calls Try.prog 59 _ _ _ at hcon
 rw [hds] at hcon
 refine hcon.mono ?_
 rintro e w' ⟨rfl, d', m, os, ⟨p1, _, p3⟩, hs, rfl⟩
 have hd's : d'.size = n := p1.trans hds
 refine ⟨rfl, d'.toList.map (·.1), ⟨?_, ?_⟩, ?_, ?_⟩
 ·rw [← hdm]
  refine List.Perm.map _ ?_
  have e1 : d'.extract 0 n = d' := by rw [← hd's]; simp
  have e2 : d.extract 0 n = d := by rw [← hds]; simp
  rw [e1, e2] at p3
  exact p3
 ·intro i j x y hij hx hy
  have hj := get_lt hy
  rw [List.length_map, Array.length_toList] at hj
  have q1 := hget d' i (by omega)
  have q2 := hget d' j hj
  rw [hx] at q1
  rw [hy] at q2
  injection q1 with q1
  injection q2 with q2
  rw [q1, q2, ← ltL_of]
  exact hs i j (Nat.zero_le _) hij (by omega)
 ·have hbw : (Go.Proofs.sortWorldK encL 5 w g 0 m d' os).heap[g]? = some (.cells (Go.Sort.putCells id 0 (Go.Sort.flatK encL 5 d') cur) 64 (0, 0)) := by
   unfold Go.Proofs.sortWorldK
   rw [Go.Sort.heap_grow_old _ _ (by unfold Go.Sort.putRowK Go.Sort.putRow Go.Sort.mapBlock Go.Sort.ahead; simpa using hlt)]
   unfold Go.Sort.putRowK Go.Sort.putRow Go.Sort.mapBlock Go.Sort.ahead
   simp only [Array.getElem?_modify, if_true, hb, Option.map_some, Go.Sort.onCells]
  refine row64_mk hbw hbase (by rw [List.length_map, Array.length_toList, hd's]) hnc hcm (by unfold Go.Sort.putCells; rw [Array.size_mapIdx]; exact hcs) ?_
  refine List.ext_getElem? fun t => ?_
  by_cases ht : t < n * 5
  ·have hct : t < cur.size := by rw [hcs]; omega
   rw [hfl d' t (by rw [hd's]; exact ht), List.getElem?_take, if_pos ht, Array.getElem?_toList]
   unfold Go.Sort.putCells
   rw [Array.getElem?_mapIdx, Array.getElem?_eq_getElem hct, Option.map_some, if_pos ⟨Nat.zero_le _, by rw [Go.Sort.size_flatK, hd's]; omega⟩]
   rfl
  ·rw [List.getElem?_eq_none (by rw [List.length_take]; omega), List.getElem?_eq_none (by rw [flat_len, List.length_map, Array.length_toList, hd's]; omega)]
 ·refine ⟨rfl, rfl, rfl, ?_, fun k hk hne => ?_⟩
  ·unfold Go.Proofs.sortWorldK
   rw [Go.Sort.size_grow]
   unfold Go.Sort.putRowK Go.Sort.putRow Go.Sort.mapBlock Go.Sort.ahead
   simp
  ·unfold Go.Proofs.sortWorldK
   rw [Go.Sort.heap_grow_old _ _ (by unfold Go.Sort.putRowK Go.Sort.putRow Go.Sort.mapBlock Go.Sort.ahead; simpa using hk)]
   unfold Go.Sort.putRowK Go.Sort.putRow Go.Sort.mapBlock Go.Sort.ahead
   simp only [Array.getElem?_modify]
   rw [if_neg (fun e => hne (by rw [e]))]
end Go.Proofs.Ytkjefnlhhfpllaa.T
namespace Go.Proofs.Ytkjefnlhhfpllaa.T
open Go.RowKit Go.Proofs.YtkjefnlhhfpllaaW.PrintWords Go.Proofs.YtkjefnlhhfpllaaW.PrintMore
open Go.Proofs.Ytkjefnlhhfpllaa.P
set_option linter.unusedVariables false
set_option linter.unusedSimpArgs false

open Go.Proofs.Ytkjefnlhhfpllaa.E (SI)
theorem no_cells {X : World} {row : Option Nat} {B : Nat} (hr : ∀ r, row = some r → B ≤ r ∧ ∃ o : Obj, X.heap[r]? = some o ∧ o.isCells = false) {j : Nat} {cs : Array Value} {t : TypeId} {f : Nat × Nat} (h : X.heap[j]? = some (.cells cs t f)) : some j ≠ row := fun e => by
 obtain ⟨_, o, ho, hc⟩ := hr j e.symm
 rw [h] at ho
 cases ho
 cases hc
theorem own_blk {X Y : World} {row : Option Nat} {B : Nat} (hg : X.grownBy Y row) (hr : ∀ r, row = some r → B ≤ r ∧ ∃ o : Obj, X.heap[r]? = some o ∧ o.isCells = false) {j : Nat} {cs : Array Value} {t : TypeId} {f : Nat × Nat} (h : X.heap[j]? = some (.cells cs t f)) : Y.heap[j]? = some (.cells cs t f) :=
 (hg.block j (Array.getElem?_eq_some_iff.1 h).1 (no_cells hr h)).trans h
theorem own_row {α : Type} {d : Kd α} {e base : Nat} {v : Value} {xs : List α} {X Y : World} {row : Option Nat} {B : Nat} (hg : X.grownBy Y row) (hr : ∀ r, row = some r → B ≤ r ∧ ∃ o : Obj, X.heap[r]? = some o ∧ o.isCells = false) (h : Kd.R d e X base (fun _ => True) v xs) : Kd.R d e Y base (fun _ => True) v xs :=
 Kd.R_mono (Kd.R_grown (Kd.R_bound h) hg (fun k hk => by obtain ⟨_, _, _, q, _, cells, hc⟩ := hk; exact no_cells hr hc)) (fun _ _ => trivial)
theorem own_below {n : Nat} {w0 X Y : World} {row : Option Nat} {B : Nat} (hn : n ≤ B) (hg : X.grownBy Y row) (hr : ∀ r, row = some r → B ≤ r ∧ ∃ o : Obj, X.heap[r]? = some o ∧ o.isCells = false) (h : Below n w0 X) (hs : n ≤ X.heap.size) : Below n w0 Y :=
 h.grown hg hs (fun k e => by have := (hr k e).1; omega)
theorem keeps_below {B : Nat} {X Y : World} (h : Below X.heap.size X Y) : KeepsFrom B X Y := ⟨h.size, fun k o _ hk _ => (h.block k (Array.getElem?_eq_some_iff.1 hk).1).trans hk⟩
theorem kept_row {α : Type} {d : Kd α} {e base B : Nat} {v : Value} {xs : List α} {X Y : World} (h : Kd.R d e X base (fun _ => True) v xs) (hg : X.grownBy Y v.ownBlock) : KeepsFrom B X Y :=
 (KeepsOthers.of_grownBy hg fun j o ej hj => by
  obtain ⟨_, inner, ho, _⟩ := h
  obtain ⟨cells, hc⟩ := own_typed ho j ej
  rw [hc] at hj
  cases hj
  rfl).from B
theorem keeps_blk {B : Nat} {X Y : World} {g : Nat} {cs : Array Value} {t : TypeId} {f : Nat × Nat} (h : X.heap[g]? = some (.cells cs t f)) (hg : X.grownBy Y (some g)) : KeepsFrom B X Y :=
 (KeepsOthers.of_grownBy hg fun j o ej hj => by
  cases ej
  rw [h] at hj
  cases hj
  rfl).from B
theorem new_stored {w wa wb : World} {g : Nat} (la : Below w.heap.size w wa) (hg : w.heap.size ≤ g) (lb : wa.grownBy wb (some g)) : Below w.heap.size w wb :=
 pw_below_grown la (some g) la.size lb (by rintro k ⟨⟩; exact hg)
def itL (x : S64) : Array Value := #[evL x]
set_option maxRecDepth 100000 in
set_option maxHeartbeats 8000000 in

theorem vals_run (l : List S64) (A : Option Addr) (c g : Nat) (w W : World) (y k : Nat) (J Jx : List S64 → World → Prop) (hB : Below w.heap.size w W) (b1 : W.heap[g]? = some (.cells #[.slice A l.length c] 25 (0, 0))) (hr : Kd.C k64 w A l.length l) (hn : l.length ≤ 1000000)
  (hJ : AbidesFrom W.heap.size J) (h0 : J [] W)
  (hY : ∀ pre x W1, J pre W1 → pre.length < l.length → YieldAt Fence.wide (k - 1) Try.prog y (itL x) W1 fun e W' => (e = .returned (.bool true) ∧ J (pre ++ [x]) W' ∧ Below w.heap.size W1 W') ∨ (e = .returned (.bool false) ∧ Jx (pre ++ [x]) W')) :
  Calls Try.prog 60 #[.func (.yield y) #[] #[], .pointer (some ⟨g, 0, none⟩)] W fun e W' => (∃ v, e = .returned v) ∧ ((∃ xs, xs = l ∧ J xs W') ∨ (∃ pre : List S64, True ∧ Jx pre W')) := by
 have hu3 := Try.underlying3
 have hu25 := Try.underlying25
 have hu64 := Try.underlying64
 obtain ⟨z3, o3⟩ := info_some info3s (by decide)
 obtain ⟨z25, o25⟩ := info_some info25s (by decide)
 obtain ⟨z64, o64⟩ := info_some info64s (by decide)
 refine E.enter (N := 16) Try.func60 rfl Try.ntmps60 (args := [.func (.yield y) #[] #[], .pointer (some ⟨g, 0, none⟩)]) (by simp) ?_
 have L := hB
 refine E.cs (E.cl (E.gr rfl (E.Runs.load1 rfl rfl hu25 rfl (by first | assumption | exact E.blkc (by assumption) rfl | exact pw_cell_below L (by assumption))) ?_))
 refine E.gr rfl (E.Runs.len rfl rfl hu25) ?_
 refine E.gm rfl rfl rfl (E.gd (E.qc (E.CG.block ?_)))
 have s1_b1 := b1
 have s1_L := L
 refine E.CG.loop (fun (i : Nat) => [(0, .func (.yield y) #[] #[]), (5, .slice A l.length c), (6, .int .i64 l.length), (7, .int .i64 i)]) (fun i w' => i ≤ l.length ∧ Below w.heap.size w w' ∧ J (l.take i) w') (fun i => l.length - i) 0 (E.subc rfl (E.subc rfl (E.subc rfl (E.subc rfl E.subn)))) ⟨Nat.zero_le _, L, h0⟩ ?_
 rintro i w1 ⟨hi, L, hJ1⟩
 have lq := Below.refl w1.heap.size w1
 refine E.cs (E.cl ?_)
 refine E.GL.cmp rfl rfl rfl (fun _ h => (E.Runs.lss rfl rfl rfl h)) (fun h8 => ?_) (fun h8 => ?_)
 ·obtain ⟨x, hx⟩ := get_ex (show i < l.length by omega)
  obtain ⟨ad, eA, X⟩ := call_at hr hx
  have htk := take_one hx
  refine E.gd (E.qc (E.cs (E.CG.cond_t rfl (E.CG.skip (E.qc (E.cs (E.CG.block (E.cs (E.cl ?_)))))))))
  refine E.gr rfl (E.Runs.indexAddrA (i := i) rfl rfl rfl hu25 z64 o64 (by omega) eA rfl) ?_
  refine E.gr rfl (E.Runs.loads (cs := [.int .i64 x.f0, .int .i64 x.f1, .int .i64 x.f2, .int .i64 x.f3, .int .i64 x.f4]) rfl rfl hu64 rfl info64s (fun j v hv => pw_cell_below L (X j v hv))) ?_
  refine E.GL.st rfl rfl rfl (E.ST.alloc rfl info64z fun g4 w4 e4 b4 l4 => ?_)
  have h4_L : w.heap.size ≤ g4 := by rw [e4]; exact L.size
  have h4_lq : w1.heap.size ≤ g4 := by rw [e4]; exact lq.size
  replace L := below_step L l4
  replace lq := below_step lq l4
  refine E.GL.store_whole rfl rfl rfl rfl rfl b4 rfl info64s (call_one _) fun wS2_3 c4 lS2_3 => ?_
  replace L := E.below_own L h4_L lS2_3
  replace lq := E.below_own lq h4_lq lS2_3
  replace b4 := c4
  clear c4
  refine E.gd (E.qc (E.cs ?_))
  have hJ9 : J (l.take i) wS2_3 := hJ (l.take i) w1 wS2_3 none hJ1 (E.gbB lq) (fun _ e => nomatch e)
  refine E.CG.wide k (E.CI.list ?_)
  refine E.GI.run E.WF.wide rfl rfl rfl rfl (E.Runs.move rfl rfl) ?_
  refine E.GI.run E.WF.wide rfl rfl rfl rfl (E.Runs.loads (cs := [.int .i64 x.f0, .int .i64 x.f1, .int .i64 x.f2, .int .i64 x.f3, .int .i64 x.f4]) rfl rfl hu64 rfl info64s (blk_cells b4)) ?_
  refine E.GI.yield E.WF.wide rfl rfl rfl rfl rfl (E.evc rfl E.evn) (hY (l.take i) x wS2_3 hJ9 (by rw [List.length_take]; omega)) ?_
  rintro e w3 (⟨rfl, hJ2, hk⟩ | ⟨rfl, hJ2⟩)
  ·refine ⟨_, rfl, ?_⟩
   refine E.GI.run E.WF.wide rfl rfl rfl rfl (E.Runs.not rfl rfl) ?_
   refine E.GI.done ?_
   replace L := L.trans hk
   rw [← htk] at hJ2
   refine E.qc (E.CG.cond_f rfl (E.CG.skip (E.QG.block_normal (E.qc (E.cl (E.gr rfl (E.Runs.add rfl rfl rfl (IntWalk.i64_in _ (by omega))) ?_))))))
   refine E.gm rfl rfl rfl (E.gd ?_)
   exact E.QG.round (i + 1) (E.subc rfl (E.subc rfl (E.subc rfl (E.subc rfl E.subn)))) ⟨by omega, L, hJ2⟩ (by omega)
  ·refine ⟨_, rfl, ?_⟩
   refine E.GI.run E.WF.wide rfl rfl rfl rfl (E.Runs.not rfl rfl) ?_
   refine E.GI.done ?_
   refine E.qc (E.CG.cond_t rfl (E.CG.ret (E.QG.block_ret (E.QG.pass_ret (E.QG.pass_ret (E.QG.block_ret ?_))))))
   exact E.QG.result0 rfl ⟨⟨_, rfl⟩, .inr ⟨_, trivial, hJ2⟩⟩
 ·have hil : i = l.length := by omega
  rw [hil, List.take_of_length_le (Nat.le_refl _)] at hJ1
  refine E.gd (E.qc (E.cs (E.CG.cond_f rfl (E.CG.exit (E.QG.pass_exit (E.QG.pass_exit (E.QG.block_here ?_)))))))
  exact E.QG.result_n0 rfl ⟨⟨_, rfl⟩, .inl ⟨_, rfl, hJ1⟩⟩

set_option maxRecDepth 100000 in
set_option maxHeartbeats 8000000 in

theorem values_calls (l : List S64) (A : Option Addr) (c : Nat) (w : World) :
  Calls Try.prog 41 #[.slice A l.length c] w fun e w' => ∃ g, e = .returned (.func (.func 60) #[] #[.pointer (some ⟨g, 0, none⟩)]) ∧ w'.heap[g]? = some (.cells #[.slice A l.length c] 25 (0, 0)) ∧ w.heap.size ≤ g ∧ Below w.heap.size w w' := by
 have hu25 := Try.underlying25
 refine E.enter (N := 4) Try.func41 rfl Try.ntmps41 (args := [.slice A l.length c]) (by simp) ?_
 have L := Below.refl w.heap.size w
 refine E.cs (E.cl ?_)
 refine E.GL.st rfl rfl rfl (E.ST.boxZ rfl rfl rfl fun g1 w1 e1 b1 l1 => ?_)
 have h1_L : w.heap.size ≤ g1 := by rw [e1]; exact L.size
 replace L := below_step L l1
 refine E.ga rfl rfl rfl (E.gd (E.qc (E.cs (E.cl (E.gr rfl (E.Runs.makeFunc rfl (E.evc rfl E.evn)) ?_)))))
 refine E.ga rfl rfl rfl (E.gd (E.qc (E.CG.ret ?_)))
 exact E.QG.result rfl rfl ⟨_, rfl, b1, h1_L, L⟩

theorem vals_stops (l : List S64) (A : Option Addr) (c g n : Nat) (w w6 : World) (L : Below w.heap.size w w6) (b : w6.heap[g]? = some (.cells #[.slice A l.length c] 25 (0, 0))) (hr : Kd.C k64 w A l.length l) (hn : l.length ≤ 1000000) :
  SeqStopsK Fence.wide n Try.prog 60 #[.pointer (some ⟨g, 0, none⟩)] itL (Below w.heap.size) (fun xs => xs = l) (fun _ => True) l.length w6 :=
 fun y J Jx W hW hJ hJx hY h0 => callsIn_wide.2 (vals_run l A c g w W y n J Jx (L.trans (hW.mono L.size)) (blk_below b hW) hr hn hJ h0 hY)
set_option maxRecDepth 100000 in
theorem lit25_1 (x : S64) (W : World) : (Instr.buildSlice 25 1 #[(0, evL x)]).run Try.prog W = .ok (.slice (some ⟨W.heap.size, 0, none⟩) 1 1) (W.alloc (.cells #[.int .i64 x.f0, .int .i64 x.f1, .int .i64 x.f2, .int .i64 x.f3, .int .i64 x.f4] 64 (0, 0))) := by
 have hu25 := Try.underlying25
 have hu64 := Try.underlying64
 go_simp
set_option maxRecDepth 100000 in
set_option maxHeartbeats 8000000 in
theorem append72 (l : List S64) (A : Option Addr) (c g : Nat) (w : World) (bg : w.heap[g]? = some (.cells #[.slice A l.length c] 25 (0, 0))) (hr : Kd.C k64 w A l.length l) (hn : l.length ≤ 1000000) :
  Calls Try.prog 72 #[.slice none 0 0, .func (.func 60) #[] #[.pointer (some ⟨g, 0, none⟩)]] w fun e w' => ∃ v, e = .returned v ∧ Kd.R k64 64 w' w.heap.size (fun _ => True) v l ∧ Below w.heap.size w w' := by
 have hu25 := Try.underlying25
 have hu64 := Try.underlying64
 obtain ⟨z25, o25⟩ := info_some info25s (by decide)
 obtain ⟨z64, o64⟩ := info_some info64s (by decide)
 refine E.enterM (N := 13) 8 Try.func72 rfl Try.ntmps72 (args := [.slice none 0 0, .func (.func 60) #[] #[.pointer (some ⟨g, 0, none⟩)]]) (by simp) ?_
 have L := Below.refl w.heap.size w
 refine E.CI.seq (E.CI.wide ?_)
 refine E.cl ?_
 refine E.GL.st rfl rfl rfl (E.ST.boxZ rfl rfl rfl fun g2 w2 e2 b2 l2 => ?_)
 have h2 : w.heap.size ≤ g2 := by rw [e2]; exact Nat.le_refl _
 replace L := below_step L l2
 refine E.ga rfl rfl rfl (E.gd (E.QG.codeI ?_))
 refine E.CI.seq ?_
 refine E.CI.seq (E.CI.wide ?_)
 refine E.cl (E.gm rfl rfl rfl (E.gd (E.QG.codeI ?_)))
 refine E.CI.block ?_
 have hg2 : g2 < w2.heap.size := blk_lt b2
 refine E.CI.range (γ := Nat) (Kp := Below w.heap.size) (by decide) rfl ent60 (vals_stops l A c g _ w w2 L (blk_below bg l2) hr hn) (fun h k => h.trans k)
  (fun W l o o' hl ho hc hw => belowK_b L.size W l o o' hl ho hc hw) (Below.refl _ _) (fun _ => rfl)
  (fun pre W => ∃ v, W.heap[g2]? = some (.cells #[v] 25 (0, 0)) ∧ Kd.R k64 64 W w.heap.size (fun _ => True) v pre ∧ Below w.heap.size w W ∧ w2.heap.size ≤ W.heap.size)
  (fun pre X Y row hi hg hrow => by
   obtain ⟨v, q1, q2, q5, q6⟩ := hi
   exact ⟨v, own_blk hg hrow q1, own_row hg hrow q2, own_below L.size hg hrow q5 q5.size, Nat.le_trans q6 hg.size⟩)
  ⟨_, b2, Kd.R_nil _ _ _ _ _, L, Nat.le_refl _⟩
  (fun x => (7, evL x) :: [(2, .pointer (some ⟨g2, 0, none⟩))])
  (fun x a ha => by
   have ha' := ha.sub (E.subc (k := 2) (v := .pointer (some ⟨g2, 0, none⟩)) rfl E.subn)
   obtain ⟨t, d⟩ := a
   obtain rfl : d = [] := ha.defers
   rw [show (#[7].zip (itL x)).foldl (fun (t : Array Value) (p, v) => t.setIfInBounds p v) t = (t.setIfInBounds 7 (evL x)) from by simp [itL]]
   exact ha'.put (n := 7) (evL x) (by decide))
  (fun x g5 => [(2, .pointer (some ⟨g2, 0, none⟩)), (5, .pointer (some ⟨g5, 0, none⟩))])
  (fun x g5 W => W.heap[g5]? = some (.cells #[.int .i64 x.f0, .int .i64 x.f1, .int .i64 x.f2, .int .i64 x.f3, .int .i64 x.f4] 64 (0, 0)) ∧ w2.heap.size ≤ g5)
  (fun x g5 _ X Y row hi hg hrow => ⟨own_blk hg hrow hi.1, hi.2⟩)
  (fun l pre x W K hi hK => ?_) (fun l' pre x g5 W hi hx hlt => ?_) (fun D xs W hD hS hi hk => ?_)
 ·obtain ⟨v, q1, q2, q5, q6⟩ := hi
  have hF := E.WF.wide.round l
  refine E.CI.list ?_
  refine E.GI.st rfl rfl rfl (SI.of hF rfl (E.ST.alloc rfl info64z fun g3 w3 e3 b3 l3 => ?_))
  refine E.GI.sn rfl rfl (SI.of hF rfl (E.ST.storeS (off := 0) (cells := [.int .i64 x.f0, .int .i64 x.f1, .int .i64 x.f2, .int .i64 x.f3, .int .i64 x.f4]) rfl rfl rfl b3 rfl info64s (call_one _) rfl fun w4 c3 l4 => ?_))
  refine E.GI.done ?_
  have hW : Below W.heap.size W w4 := new_stored l3 (by rw [e3]; exact Nat.le_refl _) l4
  intro a' ha'
  refine hK g3 w4 (keeps_below hW) (hW.mono q5.size) ⟨v, blk_below q1 hW, Kd.R_below q2 hW, below_step q5 hW, Nat.le_trans q6 hW.size⟩ ⟨c3, by omega⟩ a' ?_
  exact ha'.sub (E.subc rfl (E.subc rfl E.subn))
 ·obtain ⟨v, q1, q2, q5, q6⟩ := hi
  obtain ⟨b3, hg3⟩ := hx
  have hF := E.WF.wide.round l'
  refine E.CI.block ?_
  refine E.CI.list ?_
  have hv : ∃ A n c, v = .slice A n c := by obtain ⟨A1, c1, hv1⟩ := Kd.R_slice q2; exact ⟨_, _, _, hv1⟩
  obtain ⟨vA, vn, vc, rfl⟩ := hv
  refine E.GI.run hF rfl rfl rfl rfl (E.Runs.load1 rfl rfl hu25 rfl (E.blkc q1 rfl)) ?_
  refine E.GI.run hF rfl rfl rfl rfl (E.Runs.loads (cs := [.int .i64 x.f0, .int .i64 x.f1, .int .i64 x.f2, .int .i64 x.f3, .int .i64 x.f4]) rfl rfl hu64 rfl info64s (blk_cells b3)) ?_
  refine E.GI.st rfl rfl rfl (SI.of hF rfl (E.ST.lit rfl (E.epc rfl E.epn) (lit25_1 x) ?_))
  refine E.GI.st rfl rfl rfl (SI.of hF rfl (E.ST.append k64 w.heap.size (w0 := w) (s := .tmp 8) (x := .tmp 10) rfl hu25 info64 rfl (by decide) (by decide) x rfl rfl (k64_mkM _ _ _ _) (fun _ _ => trivial) q2 q5 q5.size (by omega) fun v1 wa r1 ka gr => ?_))
  obtain ⟨A1, c1, hv1⟩ := Kd.R_slice r1
  subst hv1
  have p1 := blk_grown q1 gr (Kd.R_ne q2 q1 (by decide))
  have kb : Below w.heap.size W wa := (Below.refl _ W).grown gr q5.size (fun k e => Kd.R_base q2 k e)
  refine E.GI.sn rfl rfl (SI.of hF rfl (E.ST.storeSl (cs := [.slice vA vn vc]) rfl z25 o25 rfl rfl p1 rfl rfl fun wb p1b gb => ?_))
  have r1b := Kd.R_grown1 r1 rfl gb (Kd.R_ne r1 p1 (by decide))
  have kbb : Below w.heap.size wa wb := (Below.refl _ wa).grown gb ka.size (fun k e => by cases e; exact h2)
  refine E.GI.done ?_
  refine E.QG.block_normal ?_
  intro a' ha'
  exact ⟨(kept_row q2 gr).trans (keeps_blk p1 gb), kb.trans kbb, _, p1b, r1b, ka.trans kbb, Nat.le_trans q6 (Nat.le_trans kb.size kbb.size)⟩
 ·obtain ⟨v, q1, q2, q5, q6⟩ := hi
  have hv : ∃ A n c, v = .slice A n c := by obtain ⟨A1, c1, hv1⟩ := Kd.R_slice q2; exact ⟨_, _, _, hv1⟩
  obtain ⟨vA, vn, vc, rfl⟩ := hv
  refine E.QD.block_normal ?_
  refine E.QD.codeI ?_
  refine E.CD.seq ?_
  refine E.CD.list ?_
  refine E.GD.run E.WF.wide rfl rfl rfl rfl (E.Runs.load1 rfl rfl hu25 rfl (E.blkc q1 rfl)) ?_
  refine E.GD.run E.WF.wide rfl rfl rfl rfl (E.Runs.assign rfl rfl) ?_
  refine E.GD.done ?_
  refine E.QD.codeI ?_
  refine E.CD.ret ?_
  have hD2 : w2.heap.size ≤ D := hD
  have hrow : ∀ r, some D = some r → w2.heap.size ≤ r ∧ ∃ o : Obj, W.heap[r]? = some o ∧ o.isCells = false := fun r e => by cases e; exact ⟨hD2, _, hk, rfl⟩
  subst hS
  exact E.QD.result1 hk rfl rfl ⟨_, rfl, own_row (grownBy_putObj' _ D (.deferred none)) hrow q2, own_below L.size (grownBy_putObj' _ D (.deferred none)) hrow q5 q5.size⟩
set_option maxRecDepth 100000 in
set_option maxHeartbeats 8000000 in

theorem collect58 (l : List S64) (A : Option Addr) (c g : Nat) (w : World) (bg : w.heap[g]? = some (.cells #[.slice A l.length c] 25 (0, 0))) (hr : Kd.C k64 w A l.length l) (hn : l.length ≤ 1000000) :
  Calls Try.prog 58 #[.func (.func 60) #[] #[.pointer (some ⟨g, 0, none⟩)]] w fun e w' => ∃ v, e = .returned v ∧ Kd.R k64 64 w' w.heap.size (fun _ => True) v l ∧ Below w.heap.size w w' := by
 refine E.enter (N := 5) Try.func58 rfl Try.ntmps58 (args := [.func (.func 60) #[] #[.pointer (some ⟨g, 0, none⟩)]]) (by simp) ?_
 have L := Below.refl w.heap.size w
 refine E.cs (E.cl (E.ga rfl rfl rfl (E.gd (E.qc (E.cs (E.cl (E.gm rfl rfl rfl ?_)))))))
 refine E.GL.st rfl rfl rfl (E.ST.call rfl ent72 (E.evc rfl (E.evc rfl E.evn)) ((append72 l A c g _ (blk_below bg L) (Kd.C_below hr L) hn).mono ?_))
 rintro e w4 ⟨v, rfl, R, l4⟩
 refine ⟨_, rfl, ?_⟩
 replace L := below_step L l4
 refine E.ga rfl rfl rfl (E.gd (E.qc (E.CG.ret ?_)))
 exact E.QG.result rfl rfl ⟨_, rfl, R, L⟩

set_option maxRecDepth 100000 in
set_option maxHeartbeats 8000000 in

theorem sorted40 (l : List S64) (A : Option Addr) (c g : Nat) (w : World) (bg : w.heap[g]? = some (.cells #[.slice A l.length c] 25 (0, 0))) (hr : Kd.C k64 w A l.length l) (hn : l.length ≤ 1000000) (hl : ∀ x ∈ l, LOk x) (h0 : 0 < l.length) :
  Calls Try.prog 40 #[.func (.func 60) #[] #[.pointer (some ⟨g, 0, none⟩)], .func (.func 42) #[] #[]] w fun e w' => ∃ g' c' l', e = .returned (.slice (some ⟨g', 0, none⟩) l.length c') ∧ Srtd l l' ∧ Kd.R k64 64 w' w.heap.size (fun _ => True) (.slice (some ⟨g', 0, none⟩) l.length c') l' ∧ w.heap.size ≤ g' ∧ Below w.heap.size w w' := by
 have hu25 := Try.underlying25
 refine E.enter (N := 12) Try.func40 rfl Try.ntmps40 (args := [.func (.func 60) #[] #[.pointer (some ⟨g, 0, none⟩)], .func (.func 42) #[] #[]]) (by simp) ?_
 have L := Below.refl w.heap.size w
 refine E.cs (E.cl (E.ga rfl rfl rfl (E.gd (E.qc (E.cs (E.cl (E.gm rfl rfl rfl ?_)))))))
 refine E.GL.st rfl rfl rfl (E.ST.call rfl ent58 (E.evc rfl E.evn) ((collect58 l A c g _ (blk_below bg L) (Kd.C_below hr L) hn).mono ?_))
 rintro e w7 ⟨v7, rfl, R, l7⟩
 refine ⟨_, rfl, ?_⟩
 replace L := below_step L l7
 obtain ⟨gO, cO, hvO, hgO, _, _⟩ := Kd.R_form R (by omega)
 subst hvO
 refine E.ga rfl rfl rfl (E.gd (E.qc (E.cs (E.cl (E.gm rfl rfl rfl (E.gm rfl rfl rfl ?_))))))
 refine E.GL.st rfl rfl rfl (E.ST.call rfl ent59 (E.evc rfl (E.evc rfl E.evn)) ((sort59 w.heap.size gO l.length cO l _ R hl hn).mono ?_))
 rintro e w10 ⟨rfl, l', hS, R, gr⟩
 refine ⟨_, rfl, ?_⟩
 replace L := E.below_own L hgO gr
 refine E.gd (E.qc (E.cs (E.cl (E.gm rfl rfl rfl (E.ga rfl rfl rfl (E.gd (E.qc (E.CG.ret ?_))))))))
 exact E.QG.result rfl rfl ⟨gO, cO, l', rfl, hS, R, hgO, L⟩

end Go.Proofs.Ytkjefnlhhfpllaa.T
namespace Go.Proofs.Ytkjefnlhhfpllaa.T
open Go.RowKit Go.Proofs.YtkjefnlhhfpllaaW.PrintWords Go.Proofs.YtkjefnlhhfpllaaW.PrintMore
open Go.Proofs.Ytkjefnlhhfpllaa.P
open Go.Proofs.Ytkjefnlhhfpllaa.E (Mf upd)
set_option linter.unusedVariables false
set_option linter.unusedSimpArgs false
/-- An order: state, row, seat, size, since. -/
structure Od where
 f0 : Int
 f1 : Int
 f2 : Int
 f3 : Int
 f4 : Int
abbrev oC (o : Od) : List Value := [.int .i64 o.f0, .int .i64 o.f1, .int .i64 o.f2, .int .i64 o.f3, .int .i64 o.f4]
structure HS where
 rows : List (List Int)
 ord : Int → Option Od
/-- So many seats from one on get a number. -/
def fill (l : List Int) (s : Nat) (v : Int) : Nat → List Int
 | 0 => l
 | k + 1 => (fill l s v k).set (s + k) v
theorem fill_len (l : List Int) (s : Nat) (v : Int) : ∀ k, (fill l s v k).length = l.length
 | 0 => rfl
 | k + 1 => by rw [fill, List.length_set, fill_len l s v k]
theorem fill_mem {l : List Int} {s : Nat} {v x : Int} : ∀ {k}, x ∈ fill l s v k → x ∈ l ∨ x = v
 | 0, h => .inl h
 | k + 1, h => by
  rcases mem_set h with h | h
  ·exact fill_mem h
  ·exact .inr h
def fillR (rows : List (List Int)) (r s : Nat) (v : Int) (k : Nat) : List (List Int) := rows.set r (fill (rows.getD r []) s v k)
theorem set_get {α : Type} {l : List α} {j : Nat} {x : α} (h : l[j]? = some x) : l.set j x = l := E.set_same h
theorem fillR_zero (rows : List (List Int)) (r s : Nat) (v : Int) : fillR rows r s v 0 = rows := by
 unfold fillR fill
 by_cases h : r < rows.length
 ·exact set_get (by rw [List.getD_eq_getElem?_getD, List.getElem?_eq_getElem h]; rfl)
 ·exact List.set_eq_of_length_le (by omega)
theorem fillR_len (rows : List (List Int)) (r s : Nat) (v : Int) (k : Nat) : (fillR rows r s v k).length = rows.length := List.length_set ..
theorem fillR_at {rows : List (List Int)} {r : Nat} (h : r < rows.length) (s : Nat) (v : Int) (k : Nat) : (fillR rows r s v k)[r]? = some (fill (rows.getD r []) s v k) := by
 unfold fillR
 rw [List.getElem?_set_self (by omega)]
theorem fillR_succ {rows : List (List Int)} {r : Nat} (h : r < rows.length) (s : Nat) (v : Int) (k : Nat) : (fillR rows r s v k).set r ((fill (rows.getD r []) s v k).set (s + k) v) = fillR rows r s v (k + 1) := by
 unfold fillR
 rw [List.set_set]
 rfl
theorem fillR_get {rows : List (List Int)} {r s : Nat} {v : Int} {k i : Nat} {l : List Int} (h : (fillR rows r s v k)[i]? = some l) : ∃ l0, rows[i]? = some l0 ∧ l.length = l0.length ∧ ∀ x ∈ l, x ∈ l0 ∨ x = v := by
 unfold fillR at h
 by_cases hr : r < rows.length
 ·rw [List.getElem?_set] at h
  by_cases e : r = i
  ·subst e
   rw [if_pos rfl, if_pos hr] at h
   cases h
   have e2 : rows[r]? = some (rows.getD r []) := by rw [List.getD_eq_getElem?_getD, List.getElem?_eq_getElem hr]; rfl
   exact ⟨_, e2, fill_len _ _ _ _, fun x hx => fill_mem hx⟩
  ·rw [if_neg e] at h
   exact ⟨l, h, rfl, fun x hx => .inl hx⟩
 ·rw [List.set_eq_of_length_le (by omega)] at h
  exact ⟨l, h, rfl, fun x hx => .inl hx⟩
/-! #### the states -/
def o0 : Od := ⟨0, -1, -1, 0, 0⟩
def ofS (S : HS) (n : Int) : HS := match S.ord n with
 | some _ => S
 | none => ⟨S.rows, upd S.ord n o0⟩
theorem ofS_some {S : HS} {n : Int} {o : Od} (h : S.ord n = some o) : ofS S n = S := by unfold ofS; rw [h]
theorem ofS_none {S : HS} {n : Int} (h : S.ord n = none) : ofS S n = ⟨S.rows, upd S.ord n o0⟩ := by unfold ofS; rw [h]
theorem ofS_get (S : HS) (n : Int) : ∃ o, (ofS S n).ord n = some o := by
 cases h : S.ord n with
 | some o => exact ⟨o, by rw [ofS_some h]; exact h⟩
 | none => exact ⟨o0, by rw [ofS_none h]; simp [upd]⟩
def leaveS (S : HS) (n : Int) (o : Od) (st : Int) : HS := ⟨fillR S.rows o.f1.toNat o.f2.toNat (-1) o.f3.toNat, upd S.ord n ⟨st, -1, -1, o.f3, o.f4⟩⟩
def due (hold minute : Int) (o : Od) : Prop := o.f0 = 2 ∧ o.f4 + hold ≤ minute
instance (hold minute : Int) (o : Od) : Decidable (due hold minute o) := by unfold due; infer_instance
def lapN (hold minute : Int) (S : HS) (n : Int) : HS := match S.ord n with
 | some o => if due hold minute o then leaveS S n o 4 else S
 | none => S
theorem lapN_due {hold minute : Int} {S : HS} {n : Int} {o : Od} (h : S.ord n = some o) (k : due hold minute o) : lapN hold minute S n = leaveS S n o 4 := by unfold lapN; rw [h]; exact if_pos k
theorem lapN_not {hold minute : Int} {S : HS} {n : Int} {o : Od} (h : S.ord n = some o) (k : ¬ due hold minute o) : lapN hold minute S n = S := by unfold lapN; rw [h]; exact if_neg k
/-- All orders have been looked at. -/
def Lap (hold minute : Int) (S S' : HS) : Prop := ∃ ks : List Int, (∀ n o, S.ord n = some o → n ∈ ks) ∧ S' = ks.foldl (lapN hold minute) S
def freeB (l : List Int) (s : Int) : Bool := decide (0 ≤ s ∧ s ≤ (l.length : Int) - 1) && decide (l.getD s.toNat 0 = -1)
def plB (l : List Int) (size s : Nat) : Bool := (List.range size).all fun i => decide (l.getD (s + i) 0 = -1)
def gapB (l : List Int) (size s : Nat) : Bool := (freeB l ((s : Int) - 1) && !freeB l ((s : Int) - 2)) || (freeB l ((s : Int) + size) && !freeB l ((s : Int) + size + 1))
def rowP (r : Nat) (l : List Int) (size q : Nat) : List (Pl × Bool) := ((List.range q).filter (plB l size)).map fun (s : Nat) => (⟨0, r, s, size⟩, gapB l size s)
def allP (size : Nat) : Nat → List (List Int) → List (Pl × Bool)
 | _, [] => []
 | r, l :: t => rowP r l size (l.length + 1 - size) ++ allP size (r + 1) t
def bestP (ps : List (Pl × Bool)) : Option Pl := match ps.find? (fun p => !p.2) with
 | some p => some p.1
 | none => ps.head?.map (·.1)
theorem rowP_succ (r : Nat) (l : List Int) (size q : Nat) : rowP r l size (q + 1) = rowP r l size q ++ if plB l size q then [(⟨0, r, q, size⟩, gapB l size q)] else [] := by
 unfold rowP
 rw [List.range_succ, List.filter_append, List.map_append]
 by_cases h : plB l size q <;> simp [h]
theorem allP_snoc (size : Nat) : ∀ (xs : List (List Int)) (r : Nat) (l : List Int), allP size r (xs ++ [l]) = allP size r xs ++ rowP (r + xs.length) l size (l.length + 1 - size)
 | [], r, l => by simp [allP]
 | x :: t, r, l => by
  rw [List.cons_append, allP, allP, allP_snoc size t (r + 1) l, List.append_assoc, show r + 1 + t.length = r + (x :: t).length by simp; omega]
theorem rowP_pre (r : Nat) (l : List Int) (size : Nat) {a b : Nat} (h : a ≤ b) : rowP r l size a <+: rowP r l size b := by
 obtain ⟨k, rfl⟩ := Nat.exists_eq_add_of_le h
 induction k with
 | zero => exact List.prefix_rfl
 | succ k ih =>
  rw [← Nat.add_assoc, rowP_succ]
  exact List.IsPrefix.trans (ih (by omega)) (List.prefix_append _ _)
theorem allP_pre (size : Nat) {rows : List (List Int)} {i : Nat} {l : List Int} (h : rows[i]? = some l) {q : Nat} (hq : q ≤ l.length + 1 - size) : allP size 0 (rows.take i) ++ rowP i l size q <+: allP size 0 rows := by
 have hi := get_lt h
 have e : rows = rows.take i ++ [l] ++ rows.drop (i + 1) := by
  rw [← take_one h, List.take_append_drop]
 have h1 : ∀ (xs ys : List (List Int)) (r : Nat), allP size r xs <+: allP size r (xs ++ ys) := fun xs => by
  induction xs with
  | nil => intro ys r; exact List.nil_prefix
  | cons x t ih =>
   intro ys r
   rw [List.cons_append, allP, allP]
   exact (List.prefix_append_right_inj _).2 (ih ys (r + 1))
 have h2 := h1 (rows.take i ++ [l]) (rows.drop (i + 1)) 0
 rw [← e, allP_snoc, Nat.zero_add, List.length_take, Nat.min_eq_left (by omega)] at h2
 exact List.IsPrefix.trans ((List.prefix_append_right_inj _).2 (rowP_pre i l size hq)) h2
/-- Such a place is in the house, and free. -/
structure PlOk (rows : List (List Int)) (size : Nat) (p : Pl) : Prop where
 at_ : ∃ (r s : Nat) (l : List Int), p = ⟨0, r, s, size⟩ ∧ rows[r]? = some l ∧ s + size ≤ l.length
theorem allP_ok {rows : List (List Int)} {size : Nat} (h1 : 1 ≤ size) : ∀ p ∈ allP size 0 rows, PlOk rows size p.1 := by
 have : ∀ (t : List (List Int)) (r : Nat), (∀ j l, t[j]? = some l → rows[r + j]? = some l) → ∀ p ∈ allP size r t, PlOk rows size p.1 := fun t => by
  induction t with
  | nil => intro r _ p hp; simp [allP] at hp
  | cons l t ih =>
   intro r hr p hp
   rw [allP, List.mem_append] at hp
   rcases hp with hp | hp
   ·unfold rowP at hp
    rw [List.mem_map] at hp
    obtain ⟨s, hs, rfl⟩ := hp
    rw [List.mem_filter, List.mem_range] at hs
    exact ⟨r, s, l, rfl, hr 0 l rfl, by omega⟩
   ·refine ih (r + 1) (fun j l' hj => ?_) p hp
    have := hr (j + 1) l' hj
    rw [show r + 1 + j = r + (j + 1) by omega]
    exact this
 exact fun p hp => this rows 0 (fun j l h => by rw [Nat.zero_add]; exact h) p hp
theorem bestP_mem {ps : List (Pl × Bool)} {p : Pl} (h : bestP ps = some p) : ∃ b, (p, b) ∈ ps := by
 unfold bestP at h
 split at h
 ·next q hq =>
  cases h
  exact ⟨q.2, List.mem_of_find?_eq_some hq⟩
 ·cases ps with
  | nil => cases h
  | cons x t => cases h; exact ⟨x.2, List.mem_cons_self⟩
def askS (S0 : HS) (n size minute : Int) : HS :=
 let S := ofS S0 n
 match S.ord n with
 | none => S
 | some o => if o.f0 ≠ 0 then S else match bestP (allP size.toNat 0 S.rows) with
  | none => ⟨S.rows, upd S.ord n ⟨1, o.f1, o.f2, size, minute⟩⟩
  | some p => ⟨fillR S.rows p.f1.toNat p.f2.toNat n size.toNat, upd S.ord n ⟨2, p.f1, p.f2, size, minute⟩⟩
def hearS (S0 : HS) (c : S64) : HS :=
 let S := ofS S0 c.f3
 match S.ord c.f3 with
 | none => S
 | some o => if c.f2 = 1 then askS S c.f3 c.f4 c.f1 else if c.f2 = 2 ∧ o.f0 = 2 then ⟨S.rows, upd S.ord c.f3 ⟨3, o.f1, o.f2, o.f3, o.f4⟩⟩ else if c.f2 = 2 then S else if o.f0 = 2 ∨ o.f0 = 3 then leaveS S c.f3 o 5 else S
def openS (ns : List Int) : HS := ⟨ns.map fun n => List.replicate n.toNat (-1), fun _ => none⟩
/-- Calls are heard, one after the other. -/
def RunF (hold : Int) : HS → List S64 → HS → Prop
 | S, [], S' => S' = S
 | S, c :: l, S' => ∃ S1, Lap hold c.f1 S S1 ∧ RunF hold (hearS S1 c) l S'
theorem RunF.snoc {hold : Int} {c : S64} : ∀ {l : List S64} {S S1 S2 : HS}, RunF hold S l S1 → Lap hold c.f1 S1 S2 → RunF hold S (l ++ [c]) (hearS S2 c)
 | [], S, S1, S2, h, k => by
  cases h
  exact ⟨S2, k, rfl⟩
 | x :: l, S, S1, S2, h, k => by
  obtain ⟨S3, h1, h2⟩ := h
  exact ⟨S3, h1, RunF.snoc h2 k⟩
/-- The house after a minute. -/
def AfterR (hold minute : Int) (ns : List Int) (cl : List S64) (S' : HS) : Prop := ∃ (k : Nat) (S1 : HS), k ≤ cl.length ∧ (∀ c ∈ cl.take k, c.f1 ≤ minute) ∧ (∀ c, cl[k]? = some c → minute < c.f1) ∧ RunF hold (openS ns) (cl.take k) S1 ∧ Lap hold minute S1 S'
/-! #### what stays true -/
def OdOk (ns : List Int) (o : Od) : Prop := (0 ≤ o.f3 ∧ o.f3 ≤ 12) ∧ (0 ≤ o.f4 ∧ o.f4 ≤ 9999) ∧ ((o.f0 = 2 ∨ o.f0 = 3) → ∃ (r s : Nat) (n : Int), o.f1 = r ∧ o.f2 = s ∧ ns[r]? = some n ∧ (s : Int) + o.f3 ≤ n)
structure HI (ns : List Int) (S : HS) : Prop where
 len : S.rows.length = ns.length
 row : ∀ (r : Nat) l n, S.rows[r]? = some l → ns[r]? = some n → (l.length : Int) = n
 val : ∀ l ∈ S.rows, ∀ x ∈ l, -1 ≤ x ∧ x ≤ 99
 ord : ∀ n o, S.ord n = some o → OdOk ns o
variable {ns : List Int} {S : HS}
theorem HI.put (h : HI ns S) {n : Int} {o : Od} (ok : OdOk ns o) : HI ns ⟨S.rows, upd S.ord n o⟩ := ⟨h.len, h.row, h.val, fun m o' hm => by
 by_cases e : m = n
 ·simp only [upd, e, if_true] at hm
  cases hm
  exact ok
 ·simp only [upd, e, if_false] at hm
  exact h.ord m o' hm⟩
theorem HI.fill (h : HI ns S) (r s : Nat) (v : Int) (k : Nat) (hv : -1 ≤ v ∧ v ≤ 99) : HI ns ⟨fillR S.rows r s v k, S.ord⟩ := ⟨by rw [fillR_len]; exact h.len, fun i l n hl hn => by
  obtain ⟨l0, h1, h2, _⟩ := fillR_get hl
  rw [h2]
  exact h.row i l0 n h1 hn, fun l hl x hx => by
  obtain ⟨i, hi⟩ := List.mem_iff_getElem?.mp hl
  obtain ⟨l0, h1, _, h3⟩ := fillR_get hi
  rcases h3 x hx with q | rfl
  ·exact h.val l0 (mem_of h1) x q
  ·exact hv, h.ord⟩
theorem o0_ok (ns : List Int) : OdOk ns o0 := ⟨by decide, by decide, fun h => by simp [o0] at h⟩
theorem HI.of (h : HI ns S) (n : Int) : HI ns (ofS S n) := by
 cases e : S.ord n with
 | some o => rw [ofS_some e]; exact h
 | none => rw [ofS_none e]; exact h.put (o0_ok ns)
theorem HI.leave (h : HI ns S) {n : Int} {o : Od} (ho : OdOk ns o) (st : Int) (h2 : st ≠ 2) (h3 : st ≠ 3) : HI ns (leaveS S n o st) := by
 refine HI.put (h.fill _ _ _ _ (by decide)) ⟨ho.1, ho.2.1, fun q => ?_⟩
 rcases q with q | q
 ·exact absurd q h2
 ·exact absurd q h3
theorem HI.lapN (h : HI ns S) (hold minute n : Int) : HI ns (lapN hold minute S n) := by
 unfold T.lapN
 split
 ·next o e =>
  split
  ·exact h.leave (h.ord n o e) 4 (by decide) (by decide)
  ·exact h
 ·exact h
theorem HI.lap {hold minute : Int} {S' : HS} (h : HI ns S) (k : Lap hold minute S S') : HI ns S' := by
 obtain ⟨ks, hks, rfl⟩ := k
 clear hks
 induction ks generalizing S with
 | nil => exact h
 | cons n t ih => exact ih (h.lapN hold minute n)
theorem HI.ask (h0 : HI ns S) {n size minute : Int} (hn : 0 ≤ n ∧ n ≤ 99) (hs : 1 ≤ size ∧ size ≤ 12) (hm : 0 ≤ minute ∧ minute ≤ 9999) : HI ns (askS S n size minute) := by
 have h := h0.of n
 unfold askS
 simp only []
 split
 ·exact h
 ·next o e =>
  split
  ·exact h
  ·next e0 =>
   have ho := h.ord n o e
   split
   ·exact h.put ⟨by show 0 ≤ size ∧ size ≤ 12; omega, hm, fun q => by simp at q⟩
   ·next p hp =>
    obtain ⟨b, hb⟩ := bestP_mem hp
    obtain ⟨r, s, l, q1, q2, q3⟩ := (allP_ok (by omega) _ hb).at_
    have q1' : p = ⟨0, r, s, size.toNat⟩ := q1
    subst q1'
    have h1 := h.fill r s n size.toNat (by omega)
    refine h1.put ⟨by show 0 ≤ size ∧ size ≤ 12; omega, hm, fun _ => ?_⟩
    obtain ⟨m, hmr⟩ := get_ex (show r < ns.length by rw [← h.len]; exact get_lt q2)
    have := h.row r l m q2 hmr
    exact ⟨r, s, m, rfl, rfl, hmr, by show (s : Int) + size ≤ m; omega⟩
theorem HI.hear (h0 : HI ns S) {c : S64} (hc : LOk c) : HI ns (hearS S c) := by
 have h := h0.of c.f3
 have hn := hc.n
 unfold inR at hn
 unfold hearS
 simp only []
 split
 ·exact h
 ·next o e =>
  have ho := h.ord c.f3 o e
  split
  ·next h1 =>
   have hk := hc.k
   unfold inR at hk
   exact h.ask (by omega) (by omega) (by omega)
  ·split
   ·next h2 => exact h.put ⟨ho.1, ho.2.1, fun _ => ho.2.2 (.inl h2.2)⟩
   ·split
    ·exact h
    ·split
     ·exact h.leave ho 5 (by decide) (by decide)
     ·exact h
theorem openS_ok (hn : AllR ns 1 12) : HI ns (openS ns) := ⟨by simp [openS], fun r l n hl hr => by
  simp only [openS, List.getElem?_map, hr, Option.map_some, Option.some.injEq] at hl
  subst hl
  have := hn n (mem_of hr)
  rw [List.length_replicate]
  omega, fun l hl x hx => by
  simp only [openS, List.mem_map] at hl
  obtain ⟨n, _, rfl⟩ := hl
  rw [List.eq_of_mem_replicate hx]
  decide, fun n o h => by cases h⟩
theorem HI.run {hold : Int} : ∀ {l : List S64} {S S' : HS}, HI ns S → (∀ c ∈ l, LOk c) → RunF hold S l S' → HI ns S'
 | [], S, S', h, _, k => by
  cases k
  exact h
 | c :: l, S, S', h, hl, k => by
  obtain ⟨S1, k1, k2⟩ := k
  exact HI.run ((h.lap k1).hear (hl c List.mem_cons_self)) (fun x hx => hl x (List.mem_cons_of_mem _ hx)) k2
end Go.Proofs.Ytkjefnlhhfpllaa.T
namespace Go.Proofs.Ytkjefnlhhfpllaa.T
open Go.RowKit Go.Proofs.YtkjefnlhhfpllaaW.PrintWords Go.Proofs.YtkjefnlhhfpllaaW.PrintMore
open Go.Proofs.Ytkjefnlhhfpllaa.P
open Go.Proofs.Ytkjefnlhhfpllaa.E (Mf upd)
set_option linter.unusedVariables false
set_option linter.unusedSimpArgs false
def evP (g : Nat) : Value := .pointer (some ⟨g, 0, none⟩)
/-- A row's header: its block, and how many seats it has. -/
def hdV (p : Nat × Nat) : Value := .slice (some ⟨p.1, 0, none⟩) p.2 p.2
def kHd : Kd (Nat × Nat) := Kd.scalar hdV (fun _ => rfl)
/-- Where a house lies. -/
structure HD where
 gx : Nat
 A : Option Addr
 n : Nat
 c : Nat
 hold : Int
 gs : Nat
 sc : Nat
 hs : List (Nat × Nat)
 gm : Nat
 f : Int → Option Nat
 v : Value
 vl : List Int
abbrev xC (D : HD) : List Value := [.slice D.A D.n D.c, .int .i64 D.hold, .slice (some ⟨D.gs, 0, none⟩) D.hs.length D.sc, .map (some D.gm), D.v]
abbrev rwC (l : List Int) : List Value := l.map (Value.int .i64)
structure HM (base : Nat) (w : World) (D : HD) (S : HS) : Prop where
 x : w.heap[D.gx]? = some (.cells (xC D).toArray 74 (0, 0))
 bx : base ≤ D.gx
 s : Kd.R kHd 22 w base (fun _ => True) (.slice (some ⟨D.gs, 0, none⟩) D.hs.length D.sc) D.hs
 lr : S.rows.length = D.hs.length
 r : ∀ (i : Nat) p, D.hs[i]? = some p → base ≤ p.1 ∧ ∃ l, S.rows[i]? = some l ∧ l.length = p.2 ∧ w.heap[p.1]? = some (.cells (rwC l).toArray 3 (0, 0))
 nd : ∀ (i j : Nat) p q, D.hs[i]? = some p → D.hs[j]? = some q → p.1 = q.1 → i = j
 m : Mf evI evP w D.gm D.f
 bm : base ≤ D.gm
 o : ∀ n g, D.f n = some g → base ≤ g ∧ ∃ o, S.ord n = some o ∧ w.heap[g]? = some (.cells (oC o).toArray 76 (0, 0))
 on : ∀ n, D.f n = none → S.ord n = none
 inj : ∀ n m g, D.f n = some g → D.f m = some g → n = m
 v : Kd.R kI 3 w base (fun _ => True) D.v D.vl
 vn : ∀ (i : Nat) p, D.hs[i]? = some p → some p.1 ≠ D.v.ownBlock
/-- What is below, and what is of other types than the house's, is as it was. -/
structure Kp (base : Nat) (w w' : World) : Prop where
 os : w'.os = w.os
 tape : w'.tape = w.tape
 output : w'.output = w.output
 size : w.heap.size ≤ w'.heap.size
 blk : ∀ (j : Nat) ob, w.heap[j]? = some ob → (j < base ∨ ∃ cs t f, ob = .cells cs t f ∧ t ≠ 3 ∧ t ≠ 22 ∧ t ≠ 74 ∧ t ≠ 76) → w'.heap[j]? = some ob
theorem ty_no {t : Nat} (h : t = 3 ∨ t = 22 ∨ t = 74 ∨ t = 76) (k : t ≠ 3 ∧ t ≠ 22 ∧ t ≠ 74 ∧ t ≠ 76) : False := by omega
variable {base : Nat} {w w' w'' : World} {D : HD} {S : HS}
theorem Kp.refl (base : Nat) (w : World) : Kp base w w := ⟨rfl, rfl, rfl, Nat.le_refl _, fun _ _ h _ => h⟩
theorem Kp.trans (h : Kp base w w') (k : Kp base w' w'') : Kp base w w'' := ⟨k.os.trans h.os, k.tape.trans h.tape, k.output.trans h.output, Nat.le_trans h.size k.size, fun j ob hj hc => k.blk j ob (h.blk j ob hj hc) hc⟩
theorem Kp.of (l : Below w.heap.size w w') : Kp base w w' := ⟨l.os, l.tape, l.output, l.size, fun j ob hj _ => blk_below hj l⟩
theorem Kp.gen {row : Option Nat} (k : w.grownBy w' row) (h : ∀ g, row = some g → base ≤ g ∧ ∀ cs t f, w.heap[g]? = some (.cells cs t f) → t = 3 ∨ t = 22 ∨ t = 74 ∨ t = 76) : Kp base w w' := ⟨k.os, k.tape, k.output, k.size, fun j ob hj hc => blk_grown hj k (fun e => by
  obtain ⟨h1, h2⟩ := h j e.symm
  rcases hc with hc | ⟨cs, t, f, rfl, q⟩
  ·omega
  ·exact ty_no (h2 cs t f hj) q)⟩
theorem Kp.own {g t : Nat} {cs : Array Value} (k : w.grownBy w' (some g)) (hb : w.heap[g]? = some (.cells cs t (0, 0))) (hg : base ≤ g) (ht : t = 3 ∨ t = 22 ∨ t = 74 ∨ t = 76) : Kp base w w' := Kp.gen k fun j e => by
 cases e
 refine ⟨hg, fun cs' t' f' h => ?_⟩
 rw [hb] at h
 cases h
 exact ht
theorem Kp.row {α : Type} {d : Kd α} {e : Nat} {v : Value} {xs : List α} (k : w.grownBy w' v.ownBlock) (h : Kd.R d e w base (fun _ => True) v xs) (ht : e = 3 ∨ e = 22 ∨ e = 74 ∨ e = 76) : Kp base w w' := Kp.gen k fun j ej => by
 refine ⟨Kd.R_base h j ej, fun cs' t' f' hj => ?_⟩
 obtain ⟨_, inner, ho, _⟩ := h
 obtain ⟨cells, hc⟩ := own_typed ho j ej
 rw [hc] at hj
 cases hj
 exact ht
theorem Mf.obj {κ ν : Type} [DecidableEq κ] {ek : κ → Value} {ev : ν → Value} {g : Nat} {f : κ → Option ν} (h : Mf ek ev w g f) : ∃ es c, w.heap[g]? = some (.map es c) := by
 obtain ⟨es, c, l, h1, h2⟩ := h
 exact ⟨es, c, h1⟩
theorem Mf.ne {κ ν : Type} [DecidableEq κ] {ek : κ → Value} {ev : ν → Value} {g j t : Nat} {f : κ → Option ν} {cs : Array Value} (h : Mf ek ev w g f) (hb : w.heap[j]? = some (.cells cs t (0, 0))) : g ≠ j := fun e => by
 obtain ⟨es, c, q⟩ := Mf.obj h
 rw [e, hb] at q
 cases q
theorem Kp.map {g : Nat} {f : Int → Option Nat} (k : w.grownBy w' (some g)) (h : Mf evI evP w g f) (hg : base ≤ g) : Kp base w w' := Kp.gen k fun j e => by
 cases e
 refine ⟨hg, fun cs' t' f' hj => ?_⟩
 obtain ⟨es, c, q⟩ := Mf.obj h
 rw [q] at hj
 cases hj
theorem Kp.at_ {j t : Nat} {cs : Array Value} (h : Kp base w w') (hb : w.heap[j]? = some (.cells cs t (0, 0))) (ht : t ≠ 3 ∧ t ≠ 22 ∧ t ≠ 74 ∧ t ≠ 76) : w'.heap[j]? = some (.cells cs t (0, 0)) := h.blk j _ hb (.inr ⟨_, _, _, rfl, ht⟩)
theorem Kp.below (h : Kp base w w') (hb : base ≤ w.heap.size) : Below base w w' := ⟨h.os, h.tape, h.output, h.size, fun k hk => by
 have e : w.heap[k]? = some w.heap[k] := Array.getElem?_eq_getElem (by omega)
 rw [h.blk k _ e (.inl hk), e]⟩
/-! #### reading -/
theorem HM.hd (h : HM base w D S) {i : Nat} {p : Nat × Nat} (hp : D.hs[i]? = some p) : w.cell? ⟨D.gs, i, none⟩ = some (.slice (some ⟨p.1, 0, none⟩) p.2 p.2) := by
 have hi := get_lt hp
 have hj : D.hs.getD i p = p := by rw [List.getD_eq_getElem?_getD, hp]; rfl
 have := (Kd.R_celln p h.s (i : Int) (by omega) (by omega)).1
 rw [Int.toNat_natCast] at this
 rw [this]
 unfold rdOf
 rw [Int.toNat_natCast, hj]
 rfl
/-- A row of seats: its header, its seats. -/
theorem HM.row (h : HM base w D S) {i : Nat} {l : List Int} (hl : S.rows[i]? = some l) : ∃ p, D.hs[i]? = some p ∧ l.length = p.2 ∧ w.heap[p.1]? = some (.cells (rwC l).toArray 3 (0, 0)) ∧ w.cell? ⟨D.gs, i, none⟩ = some (.slice (some ⟨p.1, 0, none⟩) l.length l.length) := by
 obtain ⟨p, hp⟩ := get_ex (show i < D.hs.length by rw [← h.lr]; exact get_lt hl)
 obtain ⟨_, l', h1, h2, h3⟩ := h.r i p hp
 rw [hl] at h1
 cases h1
 exact ⟨p, hp, h2, h3, by rw [h.hd hp, h2]⟩
theorem row_at {g : Nat} {l : List Int} (h : w.heap[g]? = some (.cells (rwC l).toArray 3 (0, 0))) {i : Nat} {x : Int} (hx : l[i]? = some x) : w.cell? ⟨g, i, none⟩ = some (.int .i64 x) := by
 rw [blk_cell h]
 simp [hx]
theorem HM.ord (h : HM base w D S) {n : Int} {g : Nat} (hg : D.f n = some g) : ∃ o, S.ord n = some o ∧ w.heap[g]? = some (.cells (oC o).toArray 76 (0, 0)) := (h.o n g hg).2
theorem HM.ptr (h : HM base w D S) {n : Int} {o : Od} (ho : S.ord n = some o) : ∃ g, D.f n = some g ∧ w.heap[g]? = some (.cells (oC o).toArray 76 (0, 0)) := by
 cases e : D.f n with
 | none => rw [h.on n e] at ho; cases ho
 | some g =>
  obtain ⟨o', h1, h2⟩ := h.ord e
  rw [ho] at h1
  cases h1
  exact ⟨g, rfl, h2⟩
/-! #### writing -/
theorem HM.below (h : HM base w D S) (l : Below w.heap.size w w') : HM base w' D S := ⟨blk_below h.x l, h.bx, Kd.R_below h.s l, h.lr, fun i p hp => by
  obtain ⟨q, r, q1, q2, q3⟩ := h.r i p hp
  exact ⟨q, r, q1, q2, blk_below q3 l⟩, h.nd, h.m.below l, h.bm, fun n g hg => by
  obtain ⟨q, o, q1, q2⟩ := h.o n g hg
  exact ⟨q, o, q1, blk_below q2 l⟩, h.on, h.inj, Kd.R_below h.v l, h.vn⟩
/-- An object of no type of the house's has been written. -/
theorem HM.other (h : HM base w D S) {row : Option Nat} (k : w.grownBy w' row) (hn : ∀ g, row = some g → g ≠ D.gm ∧ ∀ cs t, w.heap[g]? = some (.cells cs t (0, 0)) → t ≠ 3 ∧ t ≠ 22 ∧ t ≠ 74 ∧ t ≠ 76) : HM base w' D S := by
 have ne : ∀ {j t : Nat} {cs : Array Value}, w.heap[j]? = some (.cells cs t (0, 0)) → (t = 3 ∨ t = 22 ∨ t = 74 ∨ t = 76) → some j ≠ row := fun hj ht e => by
  exact ty_no ht ((hn _ e.symm).2 _ _ hj)
 have ner : ∀ {α : Type} {d : Kd α} {e : Nat} {v : Value} {xs : List α}, Kd.R d e w base (fun _ => True) v xs → (e = 3 ∨ e = 22 ∨ e = 74 ∨ e = 76) → row ≠ v.ownBlock ∨ row = none := fun {α d e v xs} hr ht => by
  cases hrow : row with
  | none => exact .inr rfl
  | some g =>
   refine .inl fun e' => ?_
   obtain ⟨_, inner, ho, _⟩ := hr
   obtain ⟨cells, hc⟩ := own_typed ho g e'.symm
   exact ne hc ht hrow.symm
 refine ⟨blk_grown h.x k (ne h.x (by omega)), h.bx, ?_, h.lr, fun i p hp => ?_, h.nd, h.m.grown k ?_, h.bm, fun n g hg => ?_, h.on, h.inj, ?_, h.vn⟩
 ·rcases ner h.s (by omega) with q | q
  ·exact Kd.R_grown1 h.s rfl k q
  ·subst q
   exact Kd.R_below h.s (E.belowG k)
 ·obtain ⟨q, r, q1, q2, q3⟩ := h.r i p hp
  exact ⟨q, r, q1, q2, blk_grown q3 k (ne q3 (by omega))⟩
 ·exact fun e => (hn _ e.symm).1 rfl
 ·obtain ⟨q, o, q1, q2⟩ := h.o n g hg
  exact ⟨q, o, q1, blk_grown q2 k (ne q2 (by omega))⟩
 ·rcases ner h.v (by omega) with q | q
  ·exact Kd.R_grown1 h.v rfl k q
  ·subst q
   exact Kd.R_below h.v (E.belowG k)
/-- An order is written. -/
theorem HM.setO (h : HM base w D S) {n : Int} {g : Nat} {o : Od} (hg : D.f n = some g) (hb : w'.heap[g]? = some (.cells (oC o).toArray 76 (0, 0))) (k : w.grownBy w' (some g)) : HM base w' D ⟨S.rows, upd S.ord n o⟩ := by
 obtain ⟨b0, o0, q0, b1⟩ := h.o n g hg
 refine ⟨blk_grown h.x k (E.nes (blk_ne h.x b1 (by decide))), h.bx, E.R_over h.s b1 (by decide) k, h.lr, fun i p hp => ?_, h.nd, h.m.grown k (E.nes (Mf.ne h.m b1)), h.bm, fun m j hj => ?_, fun m hm => ?_, h.inj, E.R_over h.v b1 (by decide) k, h.vn⟩
 ·obtain ⟨q, r, q1, q2, q3⟩ := h.r i p hp
  exact ⟨q, r, q1, q2, blk_grown q3 k (E.nes (blk_ne q3 b1 (by decide)))⟩
 ·by_cases e : m = n
  ·subst e
   rw [hg] at hj
   cases hj
   exact ⟨b0, o, by simp [upd], hb⟩
  ·obtain ⟨q, o', q1, q2⟩ := h.o m j hj
   refine ⟨q, o', by simp [upd, e, q1], blk_grown q2 k (E.nes fun e2 => e ?_)⟩
   subst e2
   exact h.inj m n j hj hg
 ·by_cases e : m = n
  ·subst e
   rw [hg] at hm
   cases hm
  ·simp [upd, e, h.on m hm]
/-- A row of seats is written. -/
theorem HM.setR (h : HM base w D S) {i : Nat} {p : Nat × Nat} {l l' : List Int} (hp : D.hs[i]? = some p) (hl : S.rows[i]? = some l) (he : l'.length = l.length) (hb : w'.heap[p.1]? = some (.cells (rwC l').toArray 3 (0, 0))) (k : w.grownBy w' (some p.1)) : HM base w' D ⟨S.rows.set i l', S.ord⟩ := by
 obtain ⟨b0, l0, q0, q00, b1⟩ := h.r i p hp
 rw [hl] at q0
 cases q0
 refine ⟨blk_grown h.x k (E.nes (blk_ne h.x b1 (by decide))), h.bx, E.R_over h.s b1 (by decide) k, by simp [h.lr], fun j q hq => ?_, h.nd, h.m.grown k (E.nes (Mf.ne h.m b1)), h.bm, fun m j hj => ?_, h.on, h.inj, ?_, h.vn⟩
 ·by_cases e : j = i
  ·subst e
   rw [hp] at hq
   cases hq
   exact ⟨b0, l', by simp [get_lt hl], he.trans q00, hb⟩
  ·obtain ⟨z, l1, z1, z2, z3⟩ := h.r j q hq
   exact ⟨z, l1, by rw [List.getElem?_set_ne (Ne.symm e)]; exact z1, z2, blk_grown z3 k (E.nes fun e2 => e (h.nd j i q p hq hp e2))⟩
 ·obtain ⟨q, o', q1, q2⟩ := h.o m j hj
  exact ⟨q, o', q1, blk_grown q2 k (E.nes (blk_ne q2 b1 (by decide)))⟩
 ·exact Kd.R_grown1 h.v rfl k (h.vn i p hp)
/-- A new order is put into the map. -/
theorem HM.newO (h : HM base w D S) {n : Int} {g : Nat} {o : Od} (hn : D.f n = none) (hg : base ≤ g) (hb : w.heap[g]? = some (.cells (oC o).toArray 76 (0, 0))) (hnew : ∀ m, D.f m ≠ some g) (hm : Mf evI evP w' D.gm (upd D.f n g)) (k : w.grownBy w' (some D.gm)) : HM base w' { D with f := upd D.f n g } ⟨S.rows, upd S.ord n o⟩ := by
 have ne : ∀ {j t : Nat} {cs : Array Value}, w.heap[j]? = some (.cells cs t (0, 0)) → some j ≠ some D.gm := fun hj => E.nes (Ne.symm (Mf.ne h.m hj))
 have ner : ∀ {α : Type} {d : Kd α} {e : Nat} {v : Value} {xs : List α}, Kd.R d e w base (fun _ => True) v xs → some D.gm ≠ v.ownBlock := fun {α d e v xs} hr e' => by
  obtain ⟨_, inner, ho, _⟩ := hr
  obtain ⟨cells, hc⟩ := own_typed ho D.gm e'.symm
  exact ne hc rfl
 refine ⟨blk_grown h.x k (ne h.x), h.bx, Kd.R_grown1 h.s rfl k (ner h.s), h.lr, fun i p hp => ?_, h.nd, hm, h.bm, fun m j hj => ?_, fun m hm' => ?_, fun a b j ha hb' => ?_, Kd.R_grown1 h.v rfl k (ner h.v), h.vn⟩
 ·obtain ⟨q, r, q1, q2, q3⟩ := h.r i p hp
  exact ⟨q, r, q1, q2, blk_grown q3 k (ne q3)⟩
 ·by_cases e : m = n
  ·subst e
   simp only [upd, if_true] at hj
   cases hj
   exact ⟨hg, o, by simp [upd], blk_grown hb k (ne hb)⟩
  ·simp only [upd, e, if_false] at hj
   obtain ⟨q, o', q1, q2⟩ := h.o m j hj
   exact ⟨q, o', by simp [upd, e, q1], blk_grown q2 k (ne q2)⟩
 ·by_cases e : m = n
  ·subst e
   simp [upd] at hm'
  ·simp only [upd, e, if_false] at hm' ⊢
   exact h.on m hm'
 ·by_cases ea : a = n
  ·by_cases eb : b = n
   ·rw [ea, eb]
   ·simp only [upd, ea, eb, if_true, if_false] at ha hb'
    cases ha
    exact absurd hb' (hnew b)
  ·by_cases eb : b = n
   ·simp only [upd, ea, eb, if_true, if_false] at ha hb'
    cases hb'
    exact absurd ha (hnew a)
   ·simp only [upd, ea, eb, if_false] at ha hb'
    exact h.inj a b j ha hb'
end Go.Proofs.Ytkjefnlhhfpllaa.T
namespace Go.Proofs.Ytkjefnlhhfpllaa.T
open Go.RowKit Go.Proofs.YtkjefnlhhfpllaaW.PrintWords Go.Proofs.YtkjefnlhhfpllaaW.PrintMore
open Go.Proofs.Ytkjefnlhhfpllaa.P
set_option linter.unusedVariables false
set_option linter.unusedSimpArgs false

open Go.Proofs.Ytkjefnlhhfpllaa.E (Mf upd MfI)
/-- What is no row of cells is as it was. -/
def Ko (w w' : World) : Prop := ∀ (j : Nat) o, w.heap[j]? = some o → o.isCells = false → w'.heap[j]? = some o
theorem Ko.refl (w : World) : Ko w w := fun _ _ h _ => h
theorem Ko.trans {w w1 w2 : World} (h : Ko w w1) (k : Ko w1 w2) : Ko w w2 := fun j o hj hc => k j o (h j o hj hc) hc
theorem Ko.of {w w1 : World} (l : Below w.heap.size w w1) : Ko w w1 := fun _ _ hj _ => blk_below hj l
theorem Ko.own {w w1 : World} {g t : Nat} {cs : Array Value} (k : w.grownBy w1 (some g)) (hb : w.heap[g]? = some (.cells cs t (0, 0))) : Ko w w1 := fun j o hj hc => blk_grown hj k (fun e => by
 cases e
 rw [hb] at hj
 cases hj
 cases hc)
theorem MfI.ko {κ ν : Type} [DecidableEq κ] {ek : κ → Value} {ev : ν → Value} {w w' : World} {r g : Nat} {f : κ → Option ν} {S : List κ} {n : Nat} (h : MfI ek ev w r g f S n) (k : Ko w w') : MfI ek ev w' r g f S n := by
 obtain ⟨es, c, l, a, b, d, h1, h2, h3⟩ := h
 exact ⟨es, c, l, a, b, d, k _ _ h1 rfl, k _ _ h2 rfl, h3⟩
theorem add1 (g i : Nat) : (⟨g, 0, none⟩ : Addr).add (i * 1) = ⟨g, i, none⟩ := by rw [Addr.add_mid, Nat.zero_add, Nat.mul_one]
theorem freeB_in {l : List Int} {k : Nat} {x : Int} (hi : inR (k : Int) 0 ((l.length : Int) - 1)) (hx : l[k]? = some x) : decide (x = -1) = freeB l (k : Int) := by
 unfold freeB
 rw [decide_eq_true (show 0 ≤ (k : Int) ∧ (k : Int) ≤ (l.length : Int) - 1 from hi), Bool.true_and, Int.toNat_natCast, List.getD_eq_getElem?_getD, hx]
 rfl
theorem freeB_out {l : List Int} {s : Int} (hi : ¬ inR s 0 ((l.length : Int) - 1)) : false = freeB l s := by
 unfold freeB
 rw [decide_eq_false (show ¬ (0 ≤ s ∧ s ≤ (l.length : Int) - 1) from hi)]
 rfl
theorem rw_set (l : List Int) (i : Nat) (v : Int) : (rwC l).toArray.setIfInBounds i (.int .i64 v) = (rwC (l.set i v)).toArray := by simp
theorem rw_blt {l : List Int} {i : Nat} (h : i < l.length) : Nat.blt i (rwC l).toArray.size = true := by simpa [Nat.blt_eq] using h
set_option maxRecDepth 100000 in
theorem build50o (W : World) : (Instr.build 50 #[(0, .int .i64 0), (1, .int .i64 (-1)), (2, .int .i64 (-1))]).run Try.prog W = .ok (.agg #[.int .i64 0, .int .i64 (-1), .int .i64 (-1), .int .i64 0]) W := by
 have hu3 := Try.underlying3
 have hu50 := Try.underlying50
 go_simp
set_option maxRecDepth 100000 in
theorem build76o (a b c d : Int) (W : World) : (Instr.build 76 #[(0, .agg #[.int .i64 a, .int .i64 b, .int .i64 c, .int .i64 d])]).run Try.prog W = .ok (.agg #[.int .i64 a, .int .i64 b, .int .i64 c, .int .i64 d, .int .i64 0]) W := by
 have hu3 := Try.underlying3
 have hu50 := Try.underlying50
 have hu76 := Try.underlying76
 go_simp
set_option maxRecDepth 100000 in
set_option maxHeartbeats 8000000 in

theorem isFree99 (base : Nat) (D : HD) (S : HS) (w : World) (hM : HM base w D S) (hn : D.hs.length ≤ 1000000) (i : Nat) (l : List Int) (hl : S.rows[i]? = some l) (hln : l.length ≤ 1000000) (s : Int) (hs : -10 ≤ s ∧ s ≤ 10000000) :
  Calls Try.prog 99 #[.pointer (some ⟨D.gx, 0, none⟩), .int .i64 (i : Int), .int .i64 s] w fun e w' => e = .returned (.bool (freeB l s)) ∧ Below w.heap.size w w' := by
 have bx := hM.x
 obtain ⟨p, hp, hpl, bp, hh⟩ := hM.row hl
 have hil : i < D.hs.length := get_lt hp
 have hu3 := Try.underlying3
 have hu22 := Try.underlying22
 have hu45 := Try.underlying45
 have hu72 := Try.underlying72
 have hu74 := Try.underlying74
 obtain ⟨z3, o3⟩ := info_some info3s (by decide)
 obtain ⟨z22, o22⟩ := info_some info22s (by decide)
 obtain ⟨z24, o24⟩ := info_some info24s (by decide)
 obtain ⟨z45, o45⟩ := info_some info45s (by decide)
 obtain ⟨z50, o50⟩ := info_some info50s (by decide)
 obtain ⟨z72, o72⟩ := info_some info72s (by decide)
 refine E.enter (N := 31) Try.func99 rfl Try.ntmps99 (args := [.pointer (some ⟨D.gx, 0, none⟩), .int .i64 (i : Int), .int .i64 s]) (by simp) ?_
 have L := Below.refl w.heap.size w
 refine E.cs (E.cl (E.ga rfl rfl rfl (E.gd (E.qc (E.cs (E.cl (E.gm rfl rfl rfl (E.gm rfl rfl rfl (E.gr rfl (E.Runs.nilCheck rfl rfl) ?_)))))))))
 refine E.gr rfl (E.Runs.fieldAddr rfl rfl hu74 rfl (by assumption) rfl) ?_
 refine E.gr rfl (E.Runs.load1 rfl rfl hu45 rfl (by first | assumption | exact E.blkc (by assumption) rfl | exact pw_cell_below L (by assumption))) ?_
 refine E.gm rfl rfl rfl (E.gr rfl (E.Runs.indexAddrA (i := i) rfl rfl rfl hu45 z22 o22 (by omega) rfl (add1 _ _)) ?_)
 refine E.gr rfl (E.Runs.load1 rfl rfl hu22 rfl (pw_cell_below L hh)) ?_
 refine E.gr rfl (E.Runs.len rfl rfl hu22) ?_
 refine E.gr rfl (E.Runs.sub rfl rfl rfl (IntWalk.i64_in _ (by omega))) ?_
 by_cases h17 : inR s 0 ((l.length : Int) - 1)
 ·refine E.GL.st rfl rfl rfl (E.ST.call rfl ent30 (E.evc rfl (E.evc rfl (E.evc rfl E.evn))) ((within_t s 0 ((l.length : Int) - 1) true (iff_of_true rfl h17) _).mono ?_))
  rintro e w17 ⟨rfl, l17⟩
  refine ⟨_, rfl, ?_⟩
  replace bx := blk_below bx l17
  replace bp := blk_below bp l17
  replace L := below_step L l17
  refine E.gm rfl rfl rfl ?_
  obtain ⟨k, rfl⟩ := Int.eq_ofNat_of_zero_le h17.1
  have hk := h17
  unfold inR at hk
  obtain ⟨x, hx⟩ := get_ex (show k < l.length by omega)
  refine E.gm rfl rfl rfl (E.gr rfl (E.Runs.nilCheck rfl rfl) ?_)
  refine E.gr rfl (E.Runs.fieldAddr rfl rfl hu74 rfl (by assumption) rfl) ?_
  refine E.gr rfl (E.Runs.load1 rfl rfl hu45 rfl (by first | assumption | exact E.blkc (by assumption) rfl | exact pw_cell_below L (by assumption))) ?_
  refine E.gm rfl rfl rfl (E.gr rfl (E.Runs.indexAddrA (i := i) rfl rfl rfl hu45 z22 o22 (by omega) rfl (add1 _ _)) ?_)
  refine E.gr rfl (E.Runs.load1 rfl rfl hu22 rfl (pw_cell_below L hh)) ?_
  refine E.gm rfl rfl rfl (E.gr rfl (E.Runs.indexAddrA (i := k) rfl rfl rfl hu22 z3 o3 (by omega) rfl (add1 _ _)) ?_)
  refine E.gr rfl (E.Runs.load rfl rfl hu3 (row_at bp hx)) ?_
  refine E.gr rfl (E.Runs.eql rfl rfl rfl rfl) ?_
  refine E.gt rfl rfl rfl rfl (E.ga rfl rfl rfl (E.gd (E.qc (E.CG.ret ?_))))
  exact E.QG.result rfl rfl ⟨by rw [freeB_in h17 hx], L⟩
 ·refine E.GL.st rfl rfl rfl (E.ST.call rfl ent30 (E.evc rfl (E.evc rfl (E.evc rfl E.evn))) ((within_t s 0 ((l.length : Int) - 1) false (iff_of_false Bool.false_ne_true h17) _).mono ?_))
  rintro e w17 ⟨rfl, l17⟩
  refine ⟨_, rfl, ?_⟩
  replace bx := blk_below bx l17
  replace bp := blk_below bp l17
  replace L := below_step L l17
  refine E.gm rfl rfl rfl (E.gk rfl (E.gk rfl (E.gk rfl (E.gk rfl (E.gk rfl (E.gk rfl (E.gk rfl (E.gk rfl (E.gk rfl ?_)))))))))
  refine E.gk rfl (E.gk rfl (E.gr rfl (E.Runs.pick_f rfl rfl rfl) ?_))
  refine E.ga rfl rfl rfl (E.gd (E.qc (E.CG.ret ?_)))
  exact E.QG.result rfl rfl ⟨by rw [freeB_out h17], L⟩

set_option maxRecDepth 100000 in
set_option maxHeartbeats 8000000 in

theorem of21 (base : Nat) (D : HD) (S : HS) (w : World) (hM : HM base w D S) (n : Int) :
  Calls Try.prog 21 #[.pointer (some ⟨D.gx, 0, none⟩), .int .i64 n] w fun e w' => ∃ (g : Nat) (f : Int → Option Nat), e = .returned (.pointer (some ⟨g, 0, none⟩)) ∧ HM base w' { D with f := f } (ofS S n) ∧ f n = some g ∧ Kp base w w' := by
 have bx := hM.x
 have hu3 := Try.underlying3
 have hu50 := Try.underlying50
 have hu72 := Try.underlying72
 have hu74 := Try.underlying74
 have hu76 := Try.underlying76
 have hu77 := Try.underlying77
 obtain ⟨z72, o72⟩ := info_some info72s (by decide)
 refine E.enter (N := 28) Try.func21 rfl Try.ntmps21 (args := [.pointer (some ⟨D.gx, 0, none⟩), .int .i64 n]) (by simp) ?_
 have K := Kp.refl base w
 refine E.cs (E.cl (E.ga rfl rfl rfl (E.gd (E.qc (E.cs (E.cl (E.gm rfl rfl rfl (E.gr rfl (E.Runs.nilCheck rfl rfl) ?_))))))))
 refine E.gr rfl (E.Runs.fieldAddr rfl rfl hu74 rfl (by assumption) rfl) ?_
 refine E.gr rfl (E.Runs.load1 rfl rfl hu72 rfl (by first | assumption | exact E.blkc (by assumption) rfl)) ?_
 refine E.gm rfl rfl rfl ?_
 obtain ⟨fo, hfx⟩ : ∃ o, D.f n = o := ⟨_, rfl⟩
 rcases fo with _ | g
 ·refine E.gr rfl (E.Runs.lookupF rfl rfl kT3 rfl hu72 (E.zero_run info77z) hM.m (by rw [hfx]; first | done | rfl)) ?_
  refine E.gm rfl rfl rfl (E.gr rfl (E.Runs.extract rfl rfl rfl) ?_)
  refine E.gr rfl (E.Runs.extract rfl rfl rfl) ?_
  refine E.ga rfl rfl rfl (E.ga rfl rfl rfl (E.gd (E.qc (E.cs (E.cs (E.cl (E.gm rfl rfl rfl (E.gr rfl (E.Runs.not rfl rfl) ?_))))))))
  refine E.gd (E.qc (E.CG.cond_t rfl (E.cs (E.cl (E.gr rfl (E.Runs.build rfl (E.epc rfl (E.epc rfl (E.epc rfl E.epn))) build50o) ?_)))))
  refine E.gr rfl (E.Runs.build rfl (E.epc rfl E.epn) (build76o _ _ _ _)) ?_
  refine E.GL.st rfl rfl rfl (E.ST.box rfl rfl fun g20 w20 e20 b20 l20 => ?_)
  have n20_bx : D.gx ≠ g20 := by have := blk_lt bx; omega
  replace bx := blk_below bx l20
  have hgb : base ≤ g20 := by rw [e20]; exact Nat.le_of_lt (Nat.lt_of_le_of_lt hM.bx (blk_lt hM.x))
  have hnw : ∀ m, D.f m ≠ some g20 := fun m e => by
   obtain ⟨_, o, _, q⟩ := hM.o m g20 e
   have := blk_lt q
   omega
  replace hM := hM.below l20
  replace K := K.trans (Kp.of l20)
  refine E.ga rfl rfl rfl (E.gd (E.qc (E.cl (E.gm rfl rfl rfl (E.gr rfl (E.Runs.nilCheck rfl rfl) ?_)))))
  refine E.gr rfl (E.Runs.fieldAddr rfl rfl hu74 rfl (by assumption) rfl) ?_
  refine E.gr rfl (E.Runs.load1 rfl rfl hu72 rfl (by first | assumption | exact E.blkc (by assumption) rfl)) ?_
  refine E.gm rfl rfl rfl (E.gm rfl rfl rfl ?_)
  refine E.GL.sn rfl rfl (E.ST.mapUpdate (ev := evP) (v := g20) rfl rfl kT3 n rfl rfl hu72 hM.m fun wQ mQ lQ => ?_)
  replace K := K.trans (Kp.map lQ hM.m hM.bm)
  have hsn := hM.on n hfx
  replace hM := hM.newO (o := o0) hfx hgb b20 hnw mQ lQ
  refine E.gd (E.qc (E.cs (E.cl (E.gm rfl rfl rfl (E.ga rfl rfl rfl (E.gd (E.qc (E.CG.ret ?_))))))))
  exact E.QG.result rfl rfl ⟨g20, _, rfl, by rw [ofS_none hsn]; exact hM, by simp [upd], K⟩
 ·refine E.gr rfl (E.Runs.lookupF rfl rfl kT3 rfl hu72 (E.zero_run info77z) hM.m (by rw [hfx]; first | done | rfl)) ?_
  refine E.gm rfl rfl rfl (E.gr rfl (E.Runs.extract rfl rfl rfl) ?_)
  refine E.gr rfl (E.Runs.extract rfl rfl rfl) ?_
  refine E.ga rfl rfl rfl (E.ga rfl rfl rfl (E.gd (E.qc (E.cs (E.cs (E.cl (E.gm rfl rfl rfl (E.gr rfl (E.Runs.not rfl rfl) ?_))))))))
  refine E.gd (E.qc (E.CG.cond_f rfl (E.CG.skip (E.qc (E.cs (E.cl (E.gm rfl rfl rfl (E.ga rfl rfl rfl (E.gd ?_)))))))))
  refine E.qc (E.CG.ret ?_)
  exact E.QG.result rfl rfl ⟨g, D.f, rfl, by obtain ⟨_, o, q, _⟩ := hM.o n g hfx; rw [ofS_some q]; exact hM, hfx, K⟩

set_option maxRecDepth 100000 in
set_option maxHeartbeats 8000000 in

theorem leave61 (base : Nat) (D : HD) (S : HS) (w : World) (hM : HM base w D S) (hn : D.hs.length ≤ 1000000) (n : Int) (g1 : Nat) (hg : D.f n = some g1) (z since st : Int) (r s k : Nat) (ho : S.ord n = some ⟨z, r, s, k, since⟩) (l : List Int) (hl : S.rows[r]? = some l) (hk : s + k ≤ l.length) (hln : l.length ≤ 1000000) :
  Calls Try.prog 61 #[.pointer (some ⟨D.gx, 0, none⟩), .pointer (some ⟨g1, 0, none⟩), .int .i64 st] w fun e w' => e = .returned (.tuple #[]) ∧ HM base w' D (leaveS S n ⟨z, r, s, k, since⟩ st) ∧ Kp base w w' ∧ Ko w w' := by
 have hrl : r < S.rows.length := get_lt hl
 have hlg : S.rows.getD r [] = l := getD_el hl
 obtain ⟨og, hog, b1⟩ := hM.ord hg
 rw [ho] at hog
 cases hog
 have hu3 := Try.underlying3
 have hu22 := Try.underlying22
 have hu45 := Try.underlying45
 have hu50 := Try.underlying50
 have hu74 := Try.underlying74
 have hu76 := Try.underlying76
 have hu77 := Try.underlying77
 obtain ⟨z3, o3⟩ := info_some info3s (by decide)
 obtain ⟨z22, o22⟩ := info_some info22s (by decide)
 obtain ⟨z24, o24⟩ := info_some info24s (by decide)
 obtain ⟨z45, o45⟩ := info_some info45s (by decide)
 obtain ⟨z50, o50⟩ := info_some info50s (by decide)
 obtain ⟨z72, o72⟩ := info_some info72s (by decide)
 refine E.enter (N := 48) Try.func61 rfl Try.ntmps61 (args := [.pointer (some ⟨D.gx, 0, none⟩), .pointer (some ⟨g1, 0, none⟩), .int .i64 st]) (by simp) ?_
 have K := Kp.refl base w
 have O := Ko.refl w
 refine E.cs (E.cs (E.cl (E.gm rfl rfl rfl (E.gr rfl (E.Runs.nilCheck rfl rfl) ?_))))
 refine E.gr rfl (E.Runs.fieldAddr rfl rfl hu76 rfl (by assumption) rfl) ?_
 refine E.gr rfl (E.Runs.fieldAddr rfl rfl hu50 rfl (by assumption) rfl) ?_
 refine E.gr rfl (E.Runs.load rfl rfl hu3 (by first | assumption | exact E.blkc (by assumption) rfl)) ?_
 refine E.gm rfl rfl rfl (E.gd (E.qc (E.CG.block ?_)))
 have s1_b1 := b1
 refine E.CG.loop (fun (j : Nat) => [(0, .pointer (some ⟨D.gx, 0, none⟩)), (1, .pointer (some ⟨g1, 0, none⟩)), (2, .int .i64 st), (11, .int .i64 (k : Int)), (12, .int .i64 j)]) (fun j w' => j ≤ k ∧ HM base w' D ⟨fillR S.rows r s (-1) j, S.ord⟩ ∧ Kp base w w' ∧ Ko w w') (fun j => k - j) 0 (E.subc rfl (E.subc rfl (E.subc rfl (E.subc rfl (E.subc rfl E.subn))))) ⟨Nat.zero_le _, by rw [fillR_zero]; exact hM, K, O⟩ ?_
 rintro j w1 ⟨hj, hM, K, O⟩
 obtain ⟨og, hog, b1⟩ := hM.ord hg
 rw [show (⟨fillR S.rows r s (-1) j, S.ord⟩ : HS).ord n = S.ord n from rfl, ho] at hog
 cases hog
 have bx := hM.x
 have hlj : (⟨fillR S.rows r s (-1) j, S.ord⟩ : HS).rows[r]? = some (fill l s (-1) j) := by rw [← hlg]; exact fillR_at hrl s (-1) j
 obtain ⟨p, hp, hpl, bp, hh⟩ := hM.row hlj
 have hpb := (hM.r r p hp).1
 have hril : r < D.hs.length := get_lt hp
 have hlr := hM.lr
 refine E.cs (E.cl ?_)
 refine E.GL.cmp rfl rfl rfl (fun _ h => (E.Runs.lss rfl rfl rfl h)) (fun h13 => ?_) (fun h13 => ?_)
 ·refine E.gd (E.qc (E.cs (E.CG.cond_t rfl (E.CG.skip (E.qc (E.cs (E.CG.block (E.cs (E.cl ?_)))))))))
  refine E.gm rfl rfl rfl (E.ga rfl rfl rfl (E.gd (E.qc (E.CG.heldJ 19 (fun v W => v.grownBy W (none)) (fun _ _ => True) (by kernel_rfl) (by kernel_rfl) (fun v => World.grownBy.refl _ _) fun v3 lD => ?_))))
  replace bx := blk_below bx lD
  replace b1 := blk_below b1 lD
  replace bp := blk_below bp lD
  have lD3 := lD
  clear lD
  replace hM := hM.below lD3
  replace K := K.trans (Kp.of lD3)
  replace O := O.trans (Ko.of lD3)
  replace hh := pw_cell_below lD3 hh
  have s_bx := bx
  have s_b1 := b1
  have s_bp := bp
  refine E.GJ.take1 (i := 0) rfl (by kernel_rfl) (by kernel_rfl) (by kernel_rfl) (by kernel_rfl) rfl (by kernel_rfl) (by kernel_rfl) (by intro c a d v w h; first | (cases d <;> exact h) | exact nomatch (show _ ∧ _ from h).1) rfl rfl rfl (fun w' hS => (E.Runs.move rfl rfl)) ?_
  refine E.GJ.take1 (i := 1) rfl (by kernel_rfl) (by kernel_rfl) (by kernel_rfl) (by kernel_rfl) rfl (by kernel_rfl) (by kernel_rfl) (by intro c a d v w h; first | (cases d <;> exact h) | exact nomatch (show _ ∧ _ from h).1) rfl rfl rfl (fun w' hS => (E.Runs.nilCheck rfl rfl)) ?_
  refine E.GJ.take1 (i := 2) rfl (by kernel_rfl) (by kernel_rfl) (by kernel_rfl) (by kernel_rfl) rfl (by kernel_rfl) (by kernel_rfl) (by intro c a d v w h; first | (cases d <;> exact h) | exact nomatch (show _ ∧ _ from h).1) rfl rfl rfl (fun w' hS => (E.Runs.fieldAddr rfl rfl hu74 rfl (by assumption) rfl)) ?_
  refine E.GJ.take1 (i := 3) rfl (by kernel_rfl) (by kernel_rfl) (by kernel_rfl) (by kernel_rfl) rfl (by kernel_rfl) (by kernel_rfl) (by intro c a d v w h; first | (cases d <;> exact h) | exact nomatch (show _ ∧ _ from h).1) rfl rfl rfl (fun w' hS => (E.Runs.load1 rfl rfl hu45 rfl (by first | exact E.keeps hS (E.blkc (by assumption) rfl) (by first | exact E.nen | exact E.nes (by assumption) | exact E.nes (Ne.symm (by assumption)))))) ?_
  refine E.GJ.take1 (i := 4) rfl (by kernel_rfl) (by kernel_rfl) (by kernel_rfl) (by kernel_rfl) rfl (by kernel_rfl) (by kernel_rfl) (by intro c a d v w h; first | (cases d <;> exact h) | exact nomatch (show _ ∧ _ from h).1) rfl rfl rfl (fun w' hS => (E.Runs.move rfl rfl)) ?_
  refine E.GJ.take1 (i := 5) rfl (by kernel_rfl) (by kernel_rfl) (by kernel_rfl) (by kernel_rfl) rfl (by kernel_rfl) (by kernel_rfl) (by intro c a d v w h; first | (cases d <;> exact h) | exact nomatch (show _ ∧ _ from h).1) rfl rfl rfl (fun w' hS => (E.Runs.nilCheck rfl rfl)) ?_
  refine E.GJ.take1 (i := 6) rfl (by kernel_rfl) (by kernel_rfl) (by kernel_rfl) (by kernel_rfl) rfl (by kernel_rfl) (by kernel_rfl) (by intro c a d v w h; first | (cases d <;> exact h) | exact nomatch (show _ ∧ _ from h).1) rfl rfl rfl (fun w' hS => (E.Runs.fieldAddr rfl rfl hu76 rfl (by assumption) rfl)) ?_
  refine E.GJ.take1 (i := 7) rfl (by kernel_rfl) (by kernel_rfl) (by kernel_rfl) (by kernel_rfl) rfl (by kernel_rfl) (by kernel_rfl) (by intro c a d v w h; first | (cases d <;> exact h) | exact nomatch (show _ ∧ _ from h).1) rfl rfl rfl (fun w' hS => (E.Runs.fieldAddr rfl rfl hu50 rfl (by assumption) rfl)) ?_
  refine E.GJ.take1 (i := 8) rfl (by kernel_rfl) (by kernel_rfl) (by kernel_rfl) (by kernel_rfl) rfl (by kernel_rfl) (by kernel_rfl) (by intro c a d v w h; first | (cases d <;> exact h) | exact nomatch (show _ ∧ _ from h).1) rfl rfl rfl (fun w' hS => (E.Runs.load rfl rfl hu3 (by first | exact E.keeps hS (E.blkc (by assumption) rfl) (by first | exact E.nen | exact E.nes (by assumption) | exact E.nes (Ne.symm (by assumption)))))) ?_
  refine E.GJ.take1 (i := 9) rfl (by kernel_rfl) (by kernel_rfl) (by kernel_rfl) (by kernel_rfl) rfl (by kernel_rfl) (by kernel_rfl) (by intro c a d v w h; first | (cases d <;> exact h) | exact nomatch (show _ ∧ _ from h).1) rfl rfl rfl (fun w' hS => (E.Runs.indexAddrA (i := r) rfl rfl rfl hu45 z22 o22 (by omega) rfl (add1 _ _))) ?_
  refine E.GJ.take1 (i := 10) rfl (by kernel_rfl) (by kernel_rfl) (by kernel_rfl) (by kernel_rfl) rfl (by kernel_rfl) (by kernel_rfl) (by intro c a d v w h; first | (cases d <;> exact h) | exact nomatch (show _ ∧ _ from h).1) rfl rfl rfl (fun w' hS => (E.Runs.load1 rfl rfl hu22 rfl (E.keeps hS hh E.nen))) ?_
  refine E.GJ.take1 (i := 11) rfl (by kernel_rfl) (by kernel_rfl) (by kernel_rfl) (by kernel_rfl) rfl (by kernel_rfl) (by kernel_rfl) (by intro c a d v w h; first | (cases d <;> exact h) | exact nomatch (show _ ∧ _ from h).1) rfl rfl rfl (fun w' hS => (E.Runs.move rfl rfl)) ?_
  refine E.GJ.take1 (i := 12) rfl (by kernel_rfl) (by kernel_rfl) (by kernel_rfl) (by kernel_rfl) rfl (by kernel_rfl) (by kernel_rfl) (by intro c a d v w h; first | (cases d <;> exact h) | exact nomatch (show _ ∧ _ from h).1) rfl rfl rfl (fun w' hS => (E.Runs.nilCheck rfl rfl)) ?_
  refine E.GJ.take1 (i := 13) rfl (by kernel_rfl) (by kernel_rfl) (by kernel_rfl) (by kernel_rfl) rfl (by kernel_rfl) (by kernel_rfl) (by intro c a d v w h; first | (cases d <;> exact h) | exact nomatch (show _ ∧ _ from h).1) rfl rfl rfl (fun w' hS => (E.Runs.fieldAddr rfl rfl hu76 rfl (by assumption) rfl)) ?_
  refine E.GJ.take1 (i := 14) rfl (by kernel_rfl) (by kernel_rfl) (by kernel_rfl) (by kernel_rfl) rfl (by kernel_rfl) (by kernel_rfl) (by intro c a d v w h; first | (cases d <;> exact h) | exact nomatch (show _ ∧ _ from h).1) rfl rfl rfl (fun w' hS => (E.Runs.fieldAddr rfl rfl hu50 rfl (by assumption) rfl)) ?_
  refine E.GJ.take1 (i := 15) rfl (by kernel_rfl) (by kernel_rfl) (by kernel_rfl) (by kernel_rfl) rfl (by kernel_rfl) (by kernel_rfl) (by intro c a d v w h; first | (cases d <;> exact h) | exact nomatch (show _ ∧ _ from h).1) rfl rfl rfl (fun w' hS => (E.Runs.load rfl rfl hu3 (by first | exact E.keeps hS (E.blkc (by assumption) rfl) (by first | exact E.nen | exact E.nes (by assumption) | exact E.nes (Ne.symm (by assumption)))))) ?_
  refine E.GJ.take1 (i := 16) rfl (by kernel_rfl) (by kernel_rfl) (by kernel_rfl) (by kernel_rfl) rfl (by kernel_rfl) (by kernel_rfl) (by intro c a d v w h; first | (cases d <;> exact h) | exact nomatch (show _ ∧ _ from h).1) rfl rfl rfl (fun w' hS => (E.Runs.move rfl rfl)) ?_
  refine E.GJ.take1 (i := 17) rfl (by kernel_rfl) (by kernel_rfl) (by kernel_rfl) (by kernel_rfl) rfl (by kernel_rfl) (by kernel_rfl) (by intro c a d v w h; first | (cases d <;> exact h) | exact nomatch (show _ ∧ _ from h).1) rfl rfl rfl (fun w' hS => (E.Runs.add (r := ((s + j : Nat) : Int)) rfl rfl rfl (by rw [show (s : Int) + (j : Int) = ((s + j : Nat) : Int) by omega]; exact IntWalk.i64_in _ (by omega)))) ?_
  refine E.GJ.take1 (i := 18) rfl (by kernel_rfl) (by kernel_rfl) (by kernel_rfl) (by kernel_rfl) rfl (by kernel_rfl) (by kernel_rfl) (by intro c a d v w h; first | (cases d <;> exact h) | exact nomatch (show _ ∧ _ from h).1) rfl rfl rfl (fun w' hS => (E.Runs.indexAddrA (i := s + j) rfl rfl rfl hu22 z3 o3 (by rw [fill_len]; omega) rfl (add1 _ _))) ?_
  refine E.GJ.one (i := 19) (by kernel_rfl) (E.OJ.sn rfl rfl rfl (E.ST.store (cs := (rwC (fill l s (-1) j)).toArray) (cs' := (rwC ((fill l s (-1) j).set (s + j) (-1))).toArray) rfl z3 o3 rfl rfl bp (rw_blt (by rw [fill_len]; omega)) (rw_set _ _ _) fun w19 c19 c19g => ⟨(E.SJ.behind (by kernel_rfl)).mpr trivial, ?_⟩))
  replace K := K.trans (Kp.own c19g bp hpb (.inl rfl))
  replace O := O.trans (Ko.own c19g bp)
  have hM2 := hM.setR hp hlj (by rw [List.length_set]) c19 c19g
  rw [show (⟨(fillR S.rows r s (-1) j).set r ((fill l s (-1) j).set (s + j) (-1)), S.ord⟩ : HS) = ⟨fillR S.rows r s (-1) (j + 1), S.ord⟩ from by rw [← hlg, fillR_succ hrl]] at hM2
  refine E.GJ.done (by kernel_rfl) ?_
  refine E.QG.block_normal (E.qc (E.cl (E.gr rfl (E.Runs.add rfl rfl rfl (IntWalk.i64_in _ (by omega))) ?_)))
  refine E.gm rfl rfl rfl (E.gd ?_)
  exact E.QG.round (j + 1) (E.subc rfl (E.subc rfl (E.subc rfl (E.subc rfl (E.subc rfl E.subn))))) ⟨by omega, hM2, K, O⟩ (by omega)
 ·refine E.gd (E.qc (E.cs (E.CG.cond_f rfl (E.CG.exit (E.QG.pass_exit (E.QG.pass_exit (E.QG.block_here (E.qc (E.cl ?_)))))))))
  refine E.gm rfl rfl rfl (E.gm rfl rfl rfl (E.gm rfl rfl rfl (E.gm rfl rfl rfl (E.gr rfl (E.Runs.nilCheck rfl rfl) ?_))))
  refine E.gr rfl (E.Runs.fieldAddr rfl rfl hu76 rfl (by assumption) rfl) ?_
  refine E.gr rfl (E.Runs.fieldAddr rfl rfl hu50 rfl (by assumption) rfl) ?_
  refine E.GL.sn rfl rfl (E.ST.store rfl z3 o3 rfl rfl b1 rfl (show _ = #[.int .i64 st, .int .i64 r, .int .i64 s, .int .i64 (k : Int), .int .i64 since] from rfl) fun wA cA lA => ?_)
  refine E.gr rfl (E.Runs.nilCheck rfl rfl) ?_
  refine E.gr rfl (E.Runs.fieldAddr rfl rfl hu76 rfl (by assumption) rfl) ?_
  refine E.gr rfl (E.Runs.fieldAddr rfl rfl hu50 rfl (by assumption) rfl) ?_
  refine E.GL.sn rfl rfl (E.ST.store rfl z3 o3 rfl rfl cA rfl (show _ = #[.int .i64 st, .int .i64 (-1), .int .i64 s, .int .i64 (k : Int), .int .i64 since] from rfl) fun wB cB lB => ?_)
  refine E.gr rfl (E.Runs.nilCheck rfl rfl) ?_
  refine E.gr rfl (E.Runs.fieldAddr rfl rfl hu76 rfl (by assumption) rfl) ?_
  refine E.gr rfl (E.Runs.fieldAddr rfl rfl hu50 rfl (by assumption) rfl) ?_
  refine E.GL.sn rfl rfl (E.ST.store rfl z3 o3 rfl rfl cB rfl (show _ = #[.int .i64 st, .int .i64 (-1), .int .i64 (-1), .int .i64 (k : Int), .int .i64 since] from rfl) fun wC cC lC => ?_)
  have lABC := (lA.trans lB).trans lC
  obtain rfl : k = j := by omega
  have hbo := (hM.o n g1 hg).1
  replace K := K.trans (Kp.own lABC b1 hbo (by simp))
  replace O := O.trans (Ko.own lABC b1)
  replace hM := hM.setO (o := ⟨st, -1, -1, k, since⟩) hg cC lABC
  refine E.gd ?_
  exact E.QG.result_n0 rfl ⟨rfl, hM, K, O⟩

end Go.Proofs.Ytkjefnlhhfpllaa.T
namespace Go.Proofs.Ytkjefnlhhfpllaa.T
open Go.RowKit Go.Proofs.YtkjefnlhhfpllaaW.PrintWords Go.Proofs.YtkjefnlhhfpllaaW.PrintMore
open Go.Proofs.Ytkjefnlhhfpllaa.P
set_option linter.unusedVariables false
set_option linter.unusedSimpArgs false

open Go.Proofs.Ytkjefnlhhfpllaa.E (Mf upd SI)
abbrev pC (p : Pl) : List Value := [.int .i64 p.f0, .int .i64 p.f1, .int .i64 p.f2, .int .i64 p.f3]
def itP (x : Pl × Bool) : Array Value := #[.agg (pC x.1).toArray, .bool x.2]
/-- What the rounds must keep: all that was there, and two variables. -/
def KB (n gX gZ : Nat) (A B : World) : Prop := Below n A B ∧ (∀ cs t f, A.heap[gX]? = some (.cells cs t f) → B.heap[gX]? = some (.cells cs t f)) ∧ (∀ cs t f, A.heap[gZ]? = some (.cells cs t f) → B.heap[gZ]? = some (.cells cs t f))
theorem KB.trans {n gX gZ : Nat} {A B C : World} (h : KB n gX gZ A B) (k : KB n gX gZ B C) : KB n gX gZ A C := ⟨h.1.trans k.1, fun cs t f q => k.2.1 _ _ _ (h.2.1 _ _ _ q), fun cs t f q => k.2.2 _ _ _ (h.2.2 _ _ _ q)⟩
set_option maxRecDepth 100000 in
theorem build50p (a b c : Int) (W : World) : (Instr.build 50 #[(1, .int .i64 a), (2, .int .i64 b), (3, .int .i64 c)]).run Try.prog W = .ok (.agg #[.int .i64 0, .int .i64 a, .int .i64 b, .int .i64 c]) W := by
 have hu3 := Try.underlying3
 have hu50 := Try.underlying50
 go_simp
theorem plB_yes {l : List Int} {size q : Nat} (h : ∀ j, j < size → l[q + j]? = some (-1)) : plB l size q = true := by
 unfold plB
 rw [List.all_eq_true]
 intro j hj
 rw [List.mem_range] at hj
 rw [getD_el (h j hj)]
 rfl
theorem plB_no {l : List Int} {size q t : Nat} {x : Int} (ht : t < size) (h : l[q + t]? = some x) (hx : x ≠ -1) : plB l size q = false := by
 unfold plB
 rw [Bool.eq_false_iff]
 intro e
 rw [List.all_eq_true] at e
 have := e t (List.mem_range.mpr ht)
 rw [getD_el h] at this
 simp at this
 exact hx this
theorem pre_lt {α : Type} {l pre : List α} {x : α} (h : pre ++ [x] <+: l) : pre.length < l.length := by
 have := h.length_le
 simp at this
 omega
theorem allPs (size : Nat) {rows : List (List Int)} {i : Nat} {l : List Int} (h : rows[i]? = some l) : allP size 0 (rows.take (i + 1)) = allP size 0 (rows.take i) ++ rowP i l size (l.length + 1 - size) := by
 rw [take_one h, allP_snoc, Nat.zero_add, List.length_take, Nat.min_eq_left (Nat.le_of_lt (get_lt h))]
set_option maxRecDepth 100000 in
set_option maxHeartbeats 8000000 in

theorem isFree99b (base : Nat) (D : HD) (S : HS) (w : World) (hM : HM base w D S) (hn : D.hs.length ≤ 1000000) (i : Nat) (l : List Int) (hl : S.rows[i]? = some l) (hln : l.length ≤ 1000000) (s : Int) (hs : -10 ≤ s ∧ s ≤ 10000000) (b : Bool) (hb : freeB l s = b) :
  Calls Try.prog 99 #[.pointer (some ⟨D.gx, 0, none⟩), .int .i64 (i : Int), .int .i64 s] w fun e w' => e = .returned (.bool b) ∧ Below w.heap.size w w' := by
 rw [← hb]
 exact isFree99 base D S w hM hn i l hl hln s hs
set_option maxRecDepth 100000 in
set_option maxHeartbeats 8000000 in

theorem places_run (base : Nat) (D : HD) (S : HS) (w : World) (hM : HM base w D S) (hs6 : D.hs.length ≤ 6) (hln : ∀ l ∈ S.rows, l.length ≤ 12) (gX gZ size : Nat) (h1 : 1 ≤ size) (h12 : size ≤ 12) (W : World) (y k : Nat) (J Jx : List (Pl × Bool) → World → Prop) (hB : Below w.heap.size w W) (b1 : W.heap[gX]? = some (.cells #[.pointer (some ⟨D.gx, 0, none⟩)] 69 (0, 0))) (b2 : W.heap[gZ]? = some (.cells #[.int .i64 (size : Int)] 3 (0, 0)))
  (hJ : AbidesFrom W.heap.size J) (h0 : J [] W)
  (hY : ∀ pre x W1, J pre W1 → pre.length < (allP size 0 S.rows).length → YieldAt Fence.wide (k - 1) Try.prog y (itP x) W1 fun e W' => (e = .returned (.bool true) ∧ J (pre ++ [x]) W' ∧ KB w.heap.size gX gZ W1 W') ∨ (e = .returned (.bool false) ∧ Jx (pre ++ [x]) W')) :
  Calls Try.prog 98 #[.func (.yield y) #[] #[], .pointer (some ⟨gX, 0, none⟩), .pointer (some ⟨gZ, 0, none⟩)] W fun e W' => (∃ v, e = .returned v) ∧ ((∃ xs, xs = allP size 0 S.rows ∧ J xs W') ∨ (∃ pre : List (Pl × Bool), pre <+: allP size 0 S.rows ∧ Jx pre W')) := by
 have hlr := hM.lr
 have hu3 := Try.underlying3
 have hu22 := Try.underlying22
 have hu45 := Try.underlying45
 have hu50 := Try.underlying50
 have hu69 := Try.underlying69
 have hu74 := Try.underlying74
 obtain ⟨z3, o3⟩ := info_some info3s (by decide)
 obtain ⟨z22, o22⟩ := info_some info22s (by decide)
 obtain ⟨z24, o24⟩ := info_some info24s (by decide)
 obtain ⟨z45, o45⟩ := info_some info45s (by decide)
 refine E.enter (N := 80) Try.func98 rfl Try.ntmps98 (args := [.func (.yield y) #[] #[], .pointer (some ⟨gX, 0, none⟩), .pointer (some ⟨gZ, 0, none⟩)]) (by simp) ?_
 have L := hB
 have bx := blk_below hM.x hB
 refine E.cs (E.cl (E.gr rfl (E.Runs.load1 rfl rfl hu69 rfl (by first | assumption | exact E.blkc (by assumption) rfl | exact pw_cell_below L (by assumption))) ?_))
 refine E.gr rfl (E.Runs.nilCheck rfl rfl) ?_
 refine E.gr rfl (E.Runs.fieldAddr rfl rfl hu74 rfl (by assumption) rfl) ?_
 refine E.gr rfl (E.Runs.load1 rfl rfl hu45 rfl (by first | assumption | exact E.blkc (by assumption) rfl | exact pw_cell_below L (by assumption))) ?_
 refine E.gr rfl (E.Runs.len rfl rfl hu45) ?_
 refine E.gm rfl rfl rfl (E.gd (E.qc (E.CG.block ?_)))
 have s1_b1 := b1
 have s1_b2 := b2
 have s1_bx := bx
 have s1_L := L
 refine E.CG.loop (fun (i : Nat) => [(0, .func (.yield y) #[] #[]), (1, .pointer (some ⟨gX, 0, none⟩)), (2, .pointer (some ⟨gZ, 0, none⟩)), (13, .slice (some ⟨D.gs, 0, none⟩) D.hs.length D.sc), (14, .int .i64 (D.hs.length : Int)), (15, .int .i64 (i : Int))]) (fun i w' => i ≤ D.hs.length ∧ w'.heap[gX]? = some (.cells #[.pointer (some ⟨D.gx, 0, none⟩)] 69 (0, 0)) ∧ w'.heap[gZ]? = some (.cells #[.int .i64 (size : Int)] 3 (0, 0)) ∧ Below w.heap.size w w' ∧ J (allP size 0 (S.rows.take i)) w') (fun i => D.hs.length - i) 0 (E.subc rfl (E.subc rfl (E.subc rfl (E.subc rfl (E.subc rfl (E.subc rfl E.subn)))))) ⟨Nat.zero_le _, b1, b2, L, h0⟩ ?_
 rintro i w1 ⟨hi, b1, b2, L, hJ1⟩
 refine E.cs (E.cl ?_)
 refine E.GL.cmp rfl rfl rfl (fun _ h => (E.Runs.lss rfl rfl rfl h)) (fun h16 => ?_) (fun h16 => ?_)
 ·obtain ⟨l, hl⟩ := get_ex (show i < S.rows.length by rw [hlr]; omega)
  obtain ⟨p, hp, hpl, bp, hh⟩ := hM.row hl
  have hl12 := hln l (mem_of hl)
  refine E.gd (E.qc (E.cs (E.CG.cond_t rfl (E.CG.skip (E.qc (E.cs (E.CG.block (E.cs (E.cl ?_)))))))))
  refine E.gm rfl rfl rfl (E.gr rfl (E.Runs.indexAddrA (i := i) rfl rfl rfl hu45 z22 o22 (by omega) rfl (add1 _ _)) ?_)
  refine E.gr rfl (E.Runs.load1 rfl rfl hu22 rfl (pw_cell_below L hh)) ?_
  refine E.ga rfl rfl rfl (E.ga rfl rfl rfl (E.gd (E.qc (E.CG.scope (E.cs (E.CG.label ?_))))))
  refine E.qc (E.cs (E.cl (E.gm rfl rfl rfl (E.gr rfl (E.Runs.len rfl rfl hu22) ?_))))
  refine E.gr rfl (E.Runs.load rfl rfl hu3 (by first | assumption | exact E.blkc (by assumption) rfl | exact pw_cell_below L (by assumption))) ?_
  refine E.gr rfl (E.Runs.sub rfl rfl rfl (IntWalk.i64_in _ (by omega))) ?_
  refine E.gr rfl (E.Runs.add rfl rfl rfl (IntWalk.i64_in _ (by omega))) ?_
  refine E.gm rfl rfl rfl (E.gd (E.qc (E.CG.block ?_)))
  have s4_b1 := b1
  have s4_b2 := b2
  have s4_L := L
  refine E.CG.loop (fun (q : Nat) => [(0, .func (.yield y) #[] #[]), (1, .pointer (some ⟨gX, 0, none⟩)), (2, .pointer (some ⟨gZ, 0, none⟩)), (13, .slice (some ⟨D.gs, 0, none⟩) D.hs.length D.sc), (14, .int .i64 (D.hs.length : Int)), (15, .int .i64 (i : Int)), (4, .int .i64 (i : Int)), (5, .slice (some ⟨p.1, 0, none⟩) l.length l.length), (24, .int .i64 ((l.length : Int) - (size : Int) + 1)), (25, .int .i64 (q : Int))]) (fun q w' => q ≤ l.length + 1 - size ∧ w'.heap[gX]? = some (.cells #[.pointer (some ⟨D.gx, 0, none⟩)] 69 (0, 0)) ∧ w'.heap[gZ]? = some (.cells #[.int .i64 (size : Int)] 3 (0, 0)) ∧ Below w.heap.size w w' ∧ J (allP size 0 (S.rows.take i) ++ rowP i l size q) w') (fun q => l.length + 1 - size - q) 0 (E.subc rfl (E.subc rfl (E.subc rfl (E.subc rfl (E.subc rfl (E.subc rfl (E.subc rfl (E.subc rfl (E.subc rfl (E.subc rfl E.subn)))))))))) ⟨Nat.zero_le _, b1, b2, L, by simpa [rowP] using hJ1⟩ ?_
  rintro q w4 ⟨hq, b1, b2, L, hJ2⟩
  have lq := Below.refl w4.heap.size w4
  refine E.cs (E.cl ?_)
  refine E.GL.cmp rfl rfl rfl (fun _ h => (E.Runs.lss rfl rfl rfl h)) (fun h26 => ?_) (fun h26 => ?_)
  ·refine E.gd (E.qc (E.cs (E.CG.cond_t rfl (E.CG.skip (E.qc (E.cs (E.CG.block (E.cs (E.cl ?_)))))))))
   refine E.gm rfl rfl rfl (E.ga rfl rfl rfl (E.gd (E.qc (E.cs (E.cs (E.cl (E.gr rfl (E.Runs.load rfl rfl hu3 (by first | assumption | exact E.blkc (by assumption) rfl | exact pw_cell_below L (by assumption) | exact pw_cell_below lq (by assumption))) ?_)))))))
   refine E.gm rfl rfl rfl (E.gd (E.qc (E.CG.block ?_)))
   have s7_b1 := b1
   have s7_b2 := b2
   have s7_L := L
   have s7_lq := lq
   refine E.CG.loop (fun (t : Nat) => [(0, .func (.yield y) #[] #[]), (1, .pointer (some ⟨gX, 0, none⟩)), (2, .pointer (some ⟨gZ, 0, none⟩)), (13, .slice (some ⟨D.gs, 0, none⟩) D.hs.length D.sc), (14, .int .i64 (D.hs.length : Int)), (15, .int .i64 (i : Int)), (4, .int .i64 (i : Int)), (5, .slice (some ⟨p.1, 0, none⟩) l.length l.length), (24, .int .i64 ((l.length : Int) - (size : Int) + 1)), (25, .int .i64 (q : Int)), (6, .int .i64 (q : Int)), (28, .int .i64 (size : Int)), (29, .int .i64 (t : Int))]) (fun t w' => (t ≤ size ∧ ∀ j, j < t → l[q + j]? = some (-1)) ∧ w4 = w') (fun t => size - t) 0 (E.subc rfl (E.subc rfl (E.subc rfl (E.subc rfl (E.subc rfl (E.subc rfl (E.subc rfl (E.subc rfl (E.subc rfl (E.subc rfl (E.subc rfl (E.subc rfl (E.subc rfl E.subn))))))))))))) ⟨⟨Nat.zero_le _, fun j hj => by omega⟩, rfl⟩ ?_
   rintro t w7 ⟨⟨ht, hz⟩, rfl⟩
   refine E.cs (E.cl ?_)
   refine E.GL.cmp rfl rfl rfl (fun _ h => (E.Runs.lss rfl rfl rfl h)) (fun h30 => ?_) (fun h30 => ?_)
   ·obtain ⟨x, hx⟩ := get_ex (show q + t < l.length by omega)
    refine E.gd (E.qc (E.cs (E.CG.cond_t rfl (E.CG.skip (E.qc (E.cs (E.CG.block (E.cs (E.cl ?_)))))))))
    refine E.gm rfl rfl rfl (E.ga rfl rfl rfl (E.gd (E.qc (E.cs (E.cl (E.gm rfl rfl rfl (E.gm rfl rfl rfl (E.gm rfl rfl rfl (E.gr rfl (E.Runs.add (r := ((q + t : Nat) : Int)) rfl rfl rfl (by rw [show (q : Int) + (t : Int) = ((q + t : Nat) : Int) by omega]; exact IntWalk.i64_in _ (by omega))) ?_)))))))))
    refine E.gr rfl (E.Runs.indexAddrA (i := q + t) rfl rfl rfl hu22 z3 o3 (by omega) rfl (add1 _ _)) ?_
    refine E.gr rfl (E.Runs.load rfl rfl hu3 (row_at (blk_below bp L) hx)) ?_
    refine E.GL.cmpn rfl rfl rfl (fun _ h => (E.Runs.neq rfl rfl rfl h)) (fun h38 => ?_) (fun h38 => ?_)
    ·have hJq : J (allP size 0 (S.rows.take i) ++ rowP i l size (q + 1)) w4 := by rw [rowP_succ, plB_no (by omega) hx h38, if_neg (by decide), List.append_nil]; exact hJ2
     refine E.gd (E.qc (E.CG.cond_t rfl (E.CG.exit (E.QG.block_out rfl (E.QG.pass_exit (E.QG.pass_exit (E.QG.block_out rfl (E.QG.pass_exit (E.QG.block_here ?_)))))))))
     refine E.qc (E.cl (E.gr rfl (E.Runs.add rfl rfl rfl (IntWalk.i64_in _ (by omega))) ?_))
     refine E.gm rfl rfl rfl (E.gd ?_)
     exact E.QG.round (q + 1) (E.subc rfl (E.subc rfl (E.subc rfl (E.subc rfl (E.subc rfl (E.subc rfl (E.subc rfl (E.subc rfl (E.subc rfl (E.subc rfl E.subn)))))))))) ⟨by omega, b1, b2, L, hJq⟩ (by omega)
    ·refine E.gd (E.qc (E.CG.cond_f rfl (E.CG.skip (E.QG.block_normal (E.qc (E.cl (E.gr rfl (E.Runs.add rfl rfl rfl (IntWalk.i64_in _ (by omega))) ?_)))))))
     refine E.gm rfl rfl rfl (E.gd ?_)
     exact E.QG.round (t + 1) (E.subc rfl (E.subc rfl (E.subc rfl (E.subc rfl (E.subc rfl (E.subc rfl (E.subc rfl (E.subc rfl (E.subc rfl (E.subc rfl (E.subc rfl (E.subc rfl (E.subc rfl E.subn))))))))))))) ⟨⟨by omega, fun j hj => by rcases Nat.lt_succ_iff_lt_or_eq.mp hj with q1 | q1; exact hz j q1; rw [q1, hx, h38]⟩, rfl⟩ (by omega)
   ·have hplB : plB l size q = true := plB_yes fun j hj => hz j (by omega)
    refine E.gd (E.qc (E.cs (E.CG.cond_f rfl (E.CG.exit (E.QG.pass_exit (E.QG.pass_exit (E.QG.block_here (E.qc (E.cs ?_)))))))))
    refine E.cl (E.gm rfl rfl rfl (E.gr rfl (E.Runs.load rfl rfl hu3 (by first | assumption | exact E.blkc (by assumption) rfl | exact pw_cell_below L (by assumption) | exact pw_cell_below lq (by assumption))) ?_))
    refine E.gr rfl (E.Runs.add rfl rfl rfl (IntWalk.i64_in _ (by omega))) ?_
    refine E.ga rfl rfl rfl (E.gd (E.qc (E.cs (E.CG.cut1 (fun (gp : Bool) => [(0, .func (.yield y) #[] #[]), (1, .pointer (some ⟨gX, 0, none⟩)), (2, .pointer (some ⟨gZ, 0, none⟩)), (13, .slice (some ⟨D.gs, 0, none⟩) D.hs.length D.sc), (14, .int .i64 (D.hs.length : Int)), (15, .int .i64 (i : Int)), (4, .int .i64 (i : Int)), (5, .slice (some ⟨p.1, 0, none⟩) l.length l.length), (24, .int .i64 ((l.length : Int) - (size : Int) + 1)), (25, .int .i64 (q : Int)), (6, .int .i64 (q : Int)), (9, .bool gp)]) (fun gp w' => gp = gapB l size q ∧ w'.heap[gX]? = some (.cells #[.pointer (some ⟨D.gx, 0, none⟩)] 69 (0, 0)) ∧ w'.heap[gZ]? = some (.cells #[.int .i64 (size : Int)] 3 (0, 0)) ∧ Below w.heap.size w w' ∧ Below w4.heap.size w4 w') ?_ ?_))))
    ·refine E.cl (E.gr rfl (E.Runs.load1 rfl rfl hu69 rfl (by first | assumption | exact E.blkc (by assumption) rfl | exact pw_cell_below L (by assumption) | exact pw_cell_below lq (by assumption))) ?_)
     refine E.gm rfl rfl rfl (E.gm rfl rfl rfl (E.gr rfl (E.Runs.sub rfl rfl rfl (IntWalk.i64_in _ (by omega))) ?_))
     by_cases h47 : freeB l ((q : Int) - 1) = true
     ·have k47 : freeB l ((q : Int) - 1) = true := h47
      refine E.GL.st rfl rfl rfl (E.ST.call rfl ent99 (E.evc rfl (E.evc rfl (E.evc rfl E.evn))) ((isFree99b _ D S _ (hM.below L) (by omega) i l hl (by omega) ((q : Int) - 1) (by omega) true k47).mono ?_))
      rintro e w47 ⟨rfl, l47⟩
      refine ⟨_, rfl, ?_⟩
      replace b1 := blk_below b1 l47
      replace b2 := blk_below b2 l47
      replace L := below_step L l47
      replace lq := below_step lq l47
      refine E.gm rfl rfl rfl (E.gr rfl (E.Runs.load1 rfl rfl hu69 rfl (by first | assumption | exact E.blkc (by assumption) rfl | exact pw_cell_below L (by assumption) | exact pw_cell_below lq (by assumption))) ?_)
      refine E.gm rfl rfl rfl (E.gm rfl rfl rfl (E.gr rfl (E.Runs.sub rfl rfl rfl (IntWalk.i64_in _ (by omega))) ?_))
      by_cases h53 : freeB l ((q : Int) - 2) = true
      ·have k53 : freeB l ((q : Int) - 2) = true := h53
       refine E.GL.st rfl rfl rfl (E.ST.call rfl ent99 (E.evc rfl (E.evc rfl (E.evc rfl E.evn))) ((isFree99b _ D S _ (hM.below L) (by omega) i l hl (by omega) ((q : Int) - 2) (by omega) true k53).mono ?_))
       rintro e w53 ⟨rfl, l53⟩
       refine ⟨_, rfl, ?_⟩
       replace b1 := blk_below b1 l53
       replace b2 := blk_below b2 l53
       replace L := below_step L l53
       replace lq := below_step lq l53
       refine E.gr rfl (E.Runs.not rfl rfl) ?_
       refine E.gt rfl rfl rfl rfl (E.gm rfl rfl rfl (E.gr rfl (E.Runs.load1 rfl rfl hu69 rfl (by first | assumption | exact E.blkc (by assumption) rfl | exact pw_cell_below L (by assumption) | exact pw_cell_below lq (by assumption))) ?_))
       refine E.gm rfl rfl rfl (E.gm rfl rfl rfl ?_)
       by_cases h60 : freeB l ((q : Int) + (size : Int)) = true
       ·have k60 : freeB l ((q : Int) + (size : Int)) = true := h60
        refine E.GL.st rfl rfl rfl (E.ST.call rfl ent99 (E.evc rfl (E.evc rfl (E.evc rfl E.evn))) ((isFree99b _ D S _ (hM.below L) (by omega) i l hl (by omega) ((q : Int) + (size : Int)) (by omega) true k60).mono ?_))
        rintro e w60 ⟨rfl, l60⟩
        refine ⟨_, rfl, ?_⟩
        replace b1 := blk_below b1 l60
        replace b2 := blk_below b2 l60
        replace L := below_step L l60
        replace lq := below_step lq l60
        refine E.gm rfl rfl rfl (E.gr rfl (E.Runs.load1 rfl rfl hu69 rfl (by first | assumption | exact E.blkc (by assumption) rfl | exact pw_cell_below L (by assumption) | exact pw_cell_below lq (by assumption))) ?_)
        refine E.gm rfl rfl rfl (E.gm rfl rfl rfl (E.gr rfl (E.Runs.add rfl rfl rfl (IntWalk.i64_in _ (by omega))) ?_))
        by_cases h66 : freeB l ((q : Int) + (size : Int) + 1) = true
        ·have k66 : freeB l ((q : Int) + (size : Int) + 1) = true := h66
         refine E.GL.st rfl rfl rfl (E.ST.call rfl ent99 (E.evc rfl (E.evc rfl (E.evc rfl E.evn))) ((isFree99b _ D S _ (hM.below L) (by omega) i l hl (by omega) ((q : Int) + (size : Int) + 1) (by omega) true k66).mono ?_))
         rintro e w66 ⟨rfl, l66⟩
         refine ⟨_, rfl, ?_⟩
         replace b1 := blk_below b1 l66
         replace b2 := blk_below b2 l66
         replace L := below_step L l66
         replace lq := below_step lq l66
         refine E.gr rfl (E.Runs.not rfl rfl) ?_
         refine E.gt rfl rfl rfl rfl (E.gr rfl (E.Runs.pick_f rfl rfl rfl) ?_)
         refine E.ga rfl rfl rfl (E.gd ?_)
         exact E.QG.meet1 false (E.subc rfl (E.subc rfl (E.subc rfl (E.subc rfl (E.subc rfl (E.subc rfl (E.subc rfl (E.subc rfl (E.subc rfl (E.subc rfl (E.subc rfl (E.subc rfl (E.subn))))))))))))) ⟨by unfold gapB; rw [k47, k53, k60, k66]; rfl, b1, b2, L, lq⟩
        ·have k66 : freeB l ((q : Int) + (size : Int) + 1) = false := by simpa using h66
         refine E.GL.st rfl rfl rfl (E.ST.call rfl ent99 (E.evc rfl (E.evc rfl (E.evc rfl E.evn))) ((isFree99b _ D S _ (hM.below L) (by omega) i l hl (by omega) ((q : Int) + (size : Int) + 1) (by omega) false k66).mono ?_))
         rintro e w66 ⟨rfl, l66⟩
         refine ⟨_, rfl, ?_⟩
         replace b1 := blk_below b1 l66
         replace b2 := blk_below b2 l66
         replace L := below_step L l66
         replace lq := below_step lq l66
         refine E.gr rfl (E.Runs.not rfl rfl) ?_
         refine E.gt rfl rfl rfl rfl (E.gr rfl (E.Runs.pick_f rfl rfl rfl) ?_)
         refine E.ga rfl rfl rfl (E.gd ?_)
         exact E.QG.meet1 true (E.subc rfl (E.subc rfl (E.subc rfl (E.subc rfl (E.subc rfl (E.subc rfl (E.subc rfl (E.subc rfl (E.subc rfl (E.subc rfl (E.subc rfl (E.subc rfl (E.subn))))))))))))) ⟨by unfold gapB; rw [k47, k53, k60, k66]; rfl, b1, b2, L, lq⟩
       ·have k60 : freeB l ((q : Int) + (size : Int)) = false := by simpa using h60
        refine E.GL.st rfl rfl rfl (E.ST.call rfl ent99 (E.evc rfl (E.evc rfl (E.evc rfl E.evn))) ((isFree99b _ D S _ (hM.below L) (by omega) i l hl (by omega) ((q : Int) + (size : Int)) (by omega) false k60).mono ?_))
        rintro e w60 ⟨rfl, l60⟩
        refine ⟨_, rfl, ?_⟩
        replace b1 := blk_below b1 l60
        replace b2 := blk_below b2 l60
        replace L := below_step L l60
        replace lq := below_step lq l60
        refine E.gm rfl rfl rfl (E.gk rfl (E.gk rfl (E.gk rfl (E.gk rfl (E.gk rfl (E.gk rfl (E.gr rfl (E.Runs.pick_f rfl rfl rfl) ?_)))))))
        refine E.gr rfl (E.Runs.pick_f rfl rfl rfl) ?_
        refine E.ga rfl rfl rfl (E.gd ?_)
        exact E.QG.meet1 false (E.subc rfl (E.subc rfl (E.subc rfl (E.subc rfl (E.subc rfl (E.subc rfl (E.subc rfl (E.subc rfl (E.subc rfl (E.subc rfl (E.subc rfl (E.subc rfl (E.subn))))))))))))) ⟨by unfold gapB; rw [k47, k53, k60]; rfl, b1, b2, L, lq⟩
      ·have k53 : freeB l ((q : Int) - 2) = false := by simpa using h53
       refine E.GL.st rfl rfl rfl (E.ST.call rfl ent99 (E.evc rfl (E.evc rfl (E.evc rfl E.evn))) ((isFree99b _ D S _ (hM.below L) (by omega) i l hl (by omega) ((q : Int) - 2) (by omega) false k53).mono ?_))
       rintro e w53 ⟨rfl, l53⟩
       refine ⟨_, rfl, ?_⟩
       replace b1 := blk_below b1 l53
       replace b2 := blk_below b2 l53
       replace L := below_step L l53
       replace lq := below_step lq l53
       refine E.gr rfl (E.Runs.not rfl rfl) ?_
       refine E.gt rfl rfl rfl rfl (E.gm rfl rfl rfl (E.gk rfl (E.gk rfl (E.gk rfl (E.gk rfl (E.gk rfl (E.gk rfl (E.gk rfl (E.gk rfl ?_)))))))))
       refine E.gk rfl (E.gk rfl (E.gk rfl (E.gk rfl (E.gt rfl rfl rfl rfl (E.ga rfl rfl rfl (E.gd ?_))))))
       exact E.QG.meet1 true (E.subc rfl (E.subc rfl (E.subc rfl (E.subc rfl (E.subc rfl (E.subc rfl (E.subc rfl (E.subc rfl (E.subc rfl (E.subc rfl (E.subc rfl (E.subc rfl (E.subn))))))))))))) ⟨by unfold gapB; rw [k47, k53]; rfl, b1, b2, L, lq⟩
     ·have k47 : freeB l ((q : Int) - 1) = false := by simpa using h47
      refine E.GL.st rfl rfl rfl (E.ST.call rfl ent99 (E.evc rfl (E.evc rfl (E.evc rfl E.evn))) ((isFree99b _ D S _ (hM.below L) (by omega) i l hl (by omega) ((q : Int) - 1) (by omega) false k47).mono ?_))
      rintro e w47 ⟨rfl, l47⟩
      refine ⟨_, rfl, ?_⟩
      replace b1 := blk_below b1 l47
      replace b2 := blk_below b2 l47
      replace L := below_step L l47
      replace lq := below_step lq l47
      refine E.gm rfl rfl rfl (E.gk rfl (E.gk rfl (E.gk rfl (E.gk rfl (E.gk rfl (E.gk rfl (E.gr rfl (E.Runs.pick_f rfl rfl rfl) ?_)))))))
      refine E.gm rfl rfl rfl (E.gr rfl (E.Runs.load1 rfl rfl hu69 rfl (by first | assumption | exact E.blkc (by assumption) rfl | exact pw_cell_below L (by assumption) | exact pw_cell_below lq (by assumption))) ?_)
      refine E.gm rfl rfl rfl (E.gm rfl rfl rfl ?_)
      by_cases h60 : freeB l ((q : Int) + (size : Int)) = true
      ·have k60 : freeB l ((q : Int) + (size : Int)) = true := h60
       refine E.GL.st rfl rfl rfl (E.ST.call rfl ent99 (E.evc rfl (E.evc rfl (E.evc rfl E.evn))) ((isFree99b _ D S _ (hM.below L) (by omega) i l hl (by omega) ((q : Int) + (size : Int)) (by omega) true k60).mono ?_))
       rintro e w60 ⟨rfl, l60⟩
       refine ⟨_, rfl, ?_⟩
       replace b1 := blk_below b1 l60
       replace b2 := blk_below b2 l60
       replace L := below_step L l60
       replace lq := below_step lq l60
       refine E.gm rfl rfl rfl (E.gr rfl (E.Runs.load1 rfl rfl hu69 rfl (by first | assumption | exact E.blkc (by assumption) rfl | exact pw_cell_below L (by assumption) | exact pw_cell_below lq (by assumption))) ?_)
       refine E.gm rfl rfl rfl (E.gm rfl rfl rfl (E.gr rfl (E.Runs.add rfl rfl rfl (IntWalk.i64_in _ (by omega))) ?_))
       by_cases h66 : freeB l ((q : Int) + (size : Int) + 1) = true
       ·have k66 : freeB l ((q : Int) + (size : Int) + 1) = true := h66
        refine E.GL.st rfl rfl rfl (E.ST.call rfl ent99 (E.evc rfl (E.evc rfl (E.evc rfl E.evn))) ((isFree99b _ D S _ (hM.below L) (by omega) i l hl (by omega) ((q : Int) + (size : Int) + 1) (by omega) true k66).mono ?_))
        rintro e w66 ⟨rfl, l66⟩
        refine ⟨_, rfl, ?_⟩
        replace b1 := blk_below b1 l66
        replace b2 := blk_below b2 l66
        replace L := below_step L l66
        replace lq := below_step lq l66
        refine E.gr rfl (E.Runs.not rfl rfl) ?_
        refine E.gt rfl rfl rfl rfl (E.gr rfl (E.Runs.pick_f rfl rfl rfl) ?_)
        refine E.ga rfl rfl rfl (E.gd ?_)
        exact E.QG.meet1 false (E.subc rfl (E.subc rfl (E.subc rfl (E.subc rfl (E.subc rfl (E.subc rfl (E.subc rfl (E.subc rfl (E.subc rfl (E.subc rfl (E.subc rfl (E.subc rfl (E.subn))))))))))))) ⟨by unfold gapB; rw [k47, k60, k66]; rfl, b1, b2, L, lq⟩
       ·have k66 : freeB l ((q : Int) + (size : Int) + 1) = false := by simpa using h66
        refine E.GL.st rfl rfl rfl (E.ST.call rfl ent99 (E.evc rfl (E.evc rfl (E.evc rfl E.evn))) ((isFree99b _ D S _ (hM.below L) (by omega) i l hl (by omega) ((q : Int) + (size : Int) + 1) (by omega) false k66).mono ?_))
        rintro e w66 ⟨rfl, l66⟩
        refine ⟨_, rfl, ?_⟩
        replace b1 := blk_below b1 l66
        replace b2 := blk_below b2 l66
        replace L := below_step L l66
        replace lq := below_step lq l66
        refine E.gr rfl (E.Runs.not rfl rfl) ?_
        refine E.gt rfl rfl rfl rfl (E.gr rfl (E.Runs.pick_f rfl rfl rfl) ?_)
        refine E.ga rfl rfl rfl (E.gd ?_)
        exact E.QG.meet1 true (E.subc rfl (E.subc rfl (E.subc rfl (E.subc rfl (E.subc rfl (E.subc rfl (E.subc rfl (E.subc rfl (E.subc rfl (E.subc rfl (E.subc rfl (E.subc rfl (E.subn))))))))))))) ⟨by unfold gapB; rw [k47, k60, k66]; rfl, b1, b2, L, lq⟩
      ·have k60 : freeB l ((q : Int) + (size : Int)) = false := by simpa using h60
       refine E.GL.st rfl rfl rfl (E.ST.call rfl ent99 (E.evc rfl (E.evc rfl (E.evc rfl E.evn))) ((isFree99b _ D S _ (hM.below L) (by omega) i l hl (by omega) ((q : Int) + (size : Int)) (by omega) false k60).mono ?_))
       rintro e w60 ⟨rfl, l60⟩
       refine ⟨_, rfl, ?_⟩
       replace b1 := blk_below b1 l60
       replace b2 := blk_below b2 l60
       replace L := below_step L l60
       replace lq := below_step lq l60
       refine E.gm rfl rfl rfl (E.gk rfl (E.gk rfl (E.gk rfl (E.gk rfl (E.gk rfl (E.gk rfl (E.gr rfl (E.Runs.pick_f rfl rfl rfl) ?_)))))))
       refine E.gr rfl (E.Runs.pick_f rfl rfl rfl) ?_
       refine E.ga rfl rfl rfl (E.gd ?_)
       exact E.QG.meet1 false (E.subc rfl (E.subc rfl (E.subc rfl (E.subc rfl (E.subc rfl (E.subc rfl (E.subc rfl (E.subc rfl (E.subc rfl (E.subc rfl (E.subc rfl (E.subc rfl (E.subn))))))))))))) ⟨by unfold gapB; rw [k47, k60]; rfl, b1, b2, L, lq⟩
    intro gp w12
    rintro ⟨rfl, b1, b2, L, lq⟩
    refine E.qc (E.cs ?_)
    have hpf : (allP size 0 (S.rows.take i) ++ rowP i l size q) ++ [(⟨0, i, q, size⟩, gapB l size q)] <+: allP size 0 S.rows := by have := allP_pre size hl (q := q + 1) (by omega); rwa [rowP_succ, hplB, if_pos rfl, ← List.append_assoc] at this
    have hJ9 : J (allP size 0 (S.rows.take i) ++ rowP i l size q) w12 := hJ (allP size 0 (S.rows.take i) ++ rowP i l size q) w4 w12 none hJ2 (E.gbB lq) (fun _ e => nomatch e)
    refine E.CG.wide k (E.CI.list ?_)
    refine E.GI.run E.WF.wide rfl rfl rfl rfl (E.Runs.move rfl rfl) ?_
    refine E.GI.run E.WF.wide rfl rfl rfl rfl (E.Runs.move rfl rfl) ?_
    refine E.GI.run E.WF.wide rfl rfl rfl rfl (E.Runs.move rfl rfl) ?_
    refine E.GI.run E.WF.wide rfl rfl rfl rfl (E.Runs.load rfl rfl hu3 (E.blkc b2 rfl)) ?_
    refine E.GI.run E.WF.wide rfl rfl rfl rfl (E.Runs.build rfl (E.epc rfl (E.epc rfl (E.epc rfl E.epn))) (build50p _ _ _)) ?_
    refine E.GI.run E.WF.wide rfl rfl rfl rfl (E.Runs.move rfl rfl) ?_
    refine E.GI.yield E.WF.wide rfl rfl rfl rfl rfl (E.evc rfl (E.evc rfl E.evn)) (hY (allP size 0 (S.rows.take i) ++ rowP i l size q) (⟨0, i, q, size⟩, gapB l size q) w12 hJ9 (pre_lt hpf)) ?_
    rintro e w13 (⟨rfl, hJ3, hk⟩ | ⟨rfl, hJ3⟩)
    ·refine ⟨_, rfl, ?_⟩
     refine E.GI.run E.WF.wide rfl rfl rfl rfl (E.Runs.not rfl rfl) ?_
     refine E.GI.done ?_
     replace L := L.trans hk.1
     replace b1 := hk.2.1 _ _ _ b1
     replace b2 := hk.2.2 _ _ _ b2
     have hJq : J (allP size 0 (S.rows.take i) ++ rowP i l size (q + 1)) w13 := by rw [rowP_succ, hplB, if_pos rfl, ← List.append_assoc]; exact hJ3
     refine E.qc (E.CG.cond_f rfl (E.CG.skip (E.QG.block_normal (E.qc (E.cl (E.gr rfl (E.Runs.add rfl rfl rfl (IntWalk.i64_in _ (by omega))) ?_))))))
     refine E.gm rfl rfl rfl (E.gd ?_)
     exact E.QG.round (q + 1) (E.subc rfl (E.subc rfl (E.subc rfl (E.subc rfl (E.subc rfl (E.subc rfl (E.subc rfl (E.subc rfl (E.subc rfl (E.subc rfl E.subn)))))))))) ⟨by omega, b1, b2, L, hJq⟩ (by omega)
    ·refine ⟨_, rfl, ?_⟩
     refine E.GI.run E.WF.wide rfl rfl rfl rfl (E.Runs.not rfl rfl) ?_
     refine E.GI.done ?_
     refine E.qc (E.CG.cond_t rfl (E.CG.ret (E.QG.block_ret (E.QG.pass_ret (E.QG.pass_ret (E.QG.block_ret (E.QG.scope_ret ?_)))))))
     refine E.QG.block_ret (E.QG.pass_ret (E.QG.pass_ret (E.QG.block_ret ?_)))
     exact E.QG.result0 rfl ⟨⟨_, rfl⟩, .inr ⟨_, hpf, hJ3⟩⟩
  ·have hJe : J (allP size 0 (S.rows.take (i + 1))) w4 := by rw [allPs size hl, ← show q = l.length + 1 - size by omega]; exact hJ2
   refine E.gd (E.qc (E.cs (E.CG.cond_f rfl (E.CG.exit (E.QG.pass_exit (E.QG.pass_exit (E.QG.block_here (E.QG.scope_normal ?_))))))))
   refine E.QG.block_normal (E.qc (E.cl (E.gr rfl (E.Runs.add rfl rfl rfl (IntWalk.i64_in _ (by omega))) ?_)))
   refine E.gm rfl rfl rfl (E.gd ?_)
   exact E.QG.round (i + 1) (E.subc rfl (E.subc rfl (E.subc rfl (E.subc rfl (E.subc rfl (E.subc rfl E.subn)))))) ⟨by omega, b1, b2, L, hJe⟩ (by omega)
 ·obtain rfl : i = D.hs.length := by omega
  rw [← hlr, List.take_length] at hJ1
  refine E.gd (E.qc (E.cs (E.CG.cond_f rfl (E.CG.exit (E.QG.pass_exit (E.QG.pass_exit (E.QG.block_here ?_)))))))
  exact E.QG.result_n0 rfl ⟨⟨_, rfl⟩, .inl ⟨_, rfl, hJ1⟩⟩

set_option maxRecDepth 100000 in
set_option maxHeartbeats 8000000 in

theorem places91 (g : Nat) (size : Int) (w : World) :
  Calls Try.prog 91 #[.pointer (some ⟨g, 0, none⟩), .int .i64 size] w fun e w' => ∃ gX gZ, e = .returned (.func (.func 98) #[] #[.pointer (some ⟨gX, 0, none⟩), .pointer (some ⟨gZ, 0, none⟩)]) ∧ w'.heap[gX]? = some (.cells #[.pointer (some ⟨g, 0, none⟩)] 69 (0, 0)) ∧ w'.heap[gZ]? = some (.cells #[.int .i64 size] 3 (0, 0)) ∧ w.heap.size ≤ gX ∧ w.heap.size ≤ gZ ∧ Below w.heap.size w w' := by
 have hu3 := Try.underlying3
 have hu69 := Try.underlying69
 refine E.enter (N := 6) Try.func91 rfl Try.ntmps91 (args := [.pointer (some ⟨g, 0, none⟩), .int .i64 size]) (by simp) ?_
 have L := Below.refl w.heap.size w
 refine E.cs (E.cl ?_)
 refine E.GL.st rfl rfl rfl (E.ST.boxZ rfl rfl rfl fun g2 w2 e2 b2 l2 => ?_)
 have h2_L : w.heap.size ≤ g2 := by rw [e2]; exact L.size
 replace L := below_step L l2
 refine E.GL.st rfl rfl rfl (E.ST.boxZ rfl rfl rfl fun g3 w3 e3 b3 l3 => ?_)
 have h3_L : w.heap.size ≤ g3 := by rw [e3]; exact L.size
 have n3_b2 : g2 ≠ g3 := by have := blk_lt b2; omega
 replace b2 := blk_below b2 l3
 replace L := below_step L l3
 refine E.ga rfl rfl rfl (E.gd (E.qc (E.cs (E.cl (E.gr rfl (E.Runs.makeFunc rfl (E.evc rfl (E.evc rfl E.evn))) ?_)))))
 refine E.ga rfl rfl rfl (E.gd (E.qc (E.CG.ret ?_)))
 exact E.QG.result rfl rfl ⟨_, _, rfl, b2, b3, h2_L, h3_L, L⟩

end Go.Proofs.Ytkjefnlhhfpllaa.T
namespace Go.Proofs.Ytkjefnlhhfpllaa.T
open Go.RowKit Go.Proofs.YtkjefnlhhfpllaaW.PrintWords Go.Proofs.YtkjefnlhhfpllaaW.PrintMore
open Go.Proofs.Ytkjefnlhhfpllaa.P
set_option linter.unusedVariables false
set_option linter.unusedSimpArgs false

open Go.Proofs.Ytkjefnlhhfpllaa.E (Mf upd SI)
theorem KB.of {n gX gZ : Nat} {A B : World} (l : Below A.heap.size A B) (hn : n ≤ A.heap.size) : KB n gX gZ A B := ⟨l.mono hn, fun _ _ _ q => blk_below q l, fun _ _ _ q => blk_below q l⟩
theorem KB.own {n gX gZ g : Nat} {A B : World} (k : A.grownBy B (some g)) (h1 : g ≠ gX) (h2 : g ≠ gZ) (hn : n ≤ g) (hs : n ≤ A.heap.size) : KB n gX gZ A B :=
 ⟨(Below.refl _ A).grown k hs (fun r e => by cases e; exact hn), fun _ _ _ q => blk_grown q k (E.nes (Ne.symm h1)), fun _ _ _ q => blk_grown q k (E.nes (Ne.symm h2))⟩
theorem keeps_own {B : Nat} {X Y : World} {g t : Nat} {cs : Array Value} (h : X.heap[g]? = some (.cells cs t (0, 0))) (hg : X.grownBy Y (some g)) : KeepsFrom B X Y := keeps_blk h hg
def firstP (pre : List (Pl × Bool)) : Pl := (pre.head?.map (·.1)).getD ⟨0, 0, 0, 0⟩
theorem best_all {ps : List (Pl × Bool)} (h : ∀ y ∈ ps, y.2 = true) : bestP ps = ps.head?.map (·.1) := by
 unfold bestP
 rw [List.find?_eq_none.mpr (fun x hx => by simp [h x hx])]
theorem best_at {ps pre : List (Pl × Bool)} {x : Pl × Bool} (hp : pre ++ [x] <+: ps) (h : ∀ y ∈ pre, y.2 = true) (hx : x.2 = false) : bestP ps = some x.1 := by
 obtain ⟨t, rfl⟩ := hp
 unfold bestP
 rw [List.append_assoc, List.find?_append, List.find?_eq_none.mpr (fun y hy => by simp [h y hy])]
 simp [hx]
theorem pl_one (p : Pl) : (pC p).toArray.all (·.oneCell') = true := by simp [Value.oneCell']
section
variable {F : Fence} {k : Nat} {P : Program} {ops : Array Oper} {Q : Exit → Act → World → Prop} {N : Nat} {w : World} {env : E.Env} {ds : List Deferred}
theorem QD_block_ret {id : Nat} (h : E.QD Q .ret N env ds w) : E.QD (Exit.inBlock id Q) .ret N env ds w := h
theorem QD_pass_ret {K : Act → World → Prop} (h : E.QD Q .ret N env ds w) : E.QD (Exit.then K Q) .ret N env ds w := h
/-- What a region leaves, told for itself. -/
def cutQ (N : Nat) (E1 : E.Env) (ds : List Deferred) (R : World → Prop) : Exit → Act → World → Prop := fun e a w' => e = .normal ∧ ∃ a0, E.Holds N a0 E1 ∧ a = { a0 with defers := ds } ∧ R w'
theorem CD_cut {c : Code} (E1 : E.Env) (R : World → Prop) (h : E.CD F k P c (cutQ N E1 ds R) N env ds w) (hk : ∀ w', R w' → E.QD Q .normal N E1 ds w') : E.CD F k P c Q N env ds w := fun a ha => wpIn_mono (h a ha) (fun e a' w' q => by
 obtain ⟨rfl, a0, h1, rfl, h2⟩ := q
 exact hk w' h2 a0 h1)
theorem cutQ_meet {E1 : E.Env} {R : World → Prop} (hs : E.Sub E1 env) (hR : R w) : E.QG (fun e a w => cutQ N E1 ds R e { a with defers := ds } w) .normal N env w := fun a ha => ⟨rfl, a, ha.sub hs, rfl, hR⟩
theorem cutQ_calm {E1 : E.Env} {R : World → Prop} : E.Calm (fun e a w => cutQ N E1 ds R e { a with defers := ds } w) := fun c a d v w h => nomatch h.1
end
section
variable {base : Nat} {D : HD} {S : HS} {w : World}
theorem places_stops (hM : HM base w D S) (hs6 : D.hs.length ≤ 6) (hln : ∀ l ∈ S.rows, l.length ≤ 12) {gX gZ size : Nat} (h1 : 1 ≤ size) (h12 : size ≤ 12) {w6 : World} (L : Below w.heap.size w w6) (bX : w6.heap[gX]? = some (.cells #[.pointer (some ⟨D.gx, 0, none⟩)] 69 (0, 0))) (bZ : w6.heap[gZ]? = some (.cells #[.int .i64 (size : Int)] 3 (0, 0))) (n : Nat) :
  SeqStopsK Fence.wide n Try.prog 98 #[.pointer (some ⟨gX, 0, none⟩), .pointer (some ⟨gZ, 0, none⟩)] itP (KB w.heap.size gX gZ) (fun xs => xs = allP size 0 S.rows) (fun pre => pre <+: allP size 0 S.rows) (allP size 0 S.rows).length w6 :=
 fun y J Jx W hW hJ hJx hY h0 => callsIn_wide.2 (places_run base D S w hM hs6 hln gX gZ size h1 h12 W y n J Jx (L.trans (hW.mono L.size)) (blk_below bX hW) (blk_below bZ hW) hJ h0 hY)
def bI (w w10 : World) (g4 g5 : Nat) (pre : List (Pl × Bool)) (W : World) : Prop := (∀ y ∈ pre, y.2 = true) ∧ W.heap[g4]? = some (.cells (pC (firstP pre)).toArray 50 (0, 0)) ∧ W.heap[g5]? = some (.cells #[.bool (!pre.isEmpty)] 4 (0, 0)) ∧ Below w.heap.size w W ∧ w10.heap.size ≤ W.heap.size
def bX (w w10 : World) (g4 g5 : Nat) (pre : List (Pl × Bool)) (W : World) : Prop := ∃ pre0 x, pre = pre0 ++ [x] ∧ x.2 = false ∧ (∀ y ∈ pre0, y.2 = true) ∧ W.heap[g4]? = some (.cells (pC x.1).toArray 50 (0, 0)) ∧ W.heap[g5]? = some (.cells #[.bool true] 4 (0, 0)) ∧ Below w.heap.size w W ∧ w10.heap.size ≤ W.heap.size
set_option maxRecDepth 100000 in
set_option maxHeartbeats 8000000 in
theorem best75 (hM : HM base w D S) (hs6 : D.hs.length ≤ 6) (hln : ∀ l ∈ S.rows, l.length ≤ 12) (size : Nat) (h1 : 1 ≤ size) (h12 : size ≤ 12) :
  Calls Try.prog 75 #[.pointer (some ⟨D.gx, 0, none⟩), .int .i64 (size : Int)] w fun e w' => ∃ p b, e = .returned (.tuple #[.agg (pC p).toArray, .bool b]) ∧ bestP (allP size 0 S.rows) = (if b then some p else none) ∧ Below w.heap.size w w' := by
 have hu3 := Try.underlying3
 have hu4 := Try.underlying4
 have hu50 := Try.underlying50
 obtain ⟨z4, o4⟩ := info_some info4s (by decide)
 refine E.enterM (N := 21) 8 Try.func75 rfl Try.ntmps75 (args := [.pointer (some ⟨D.gx, 0, none⟩), .int .i64 (size : Int)]) (by simp) ?_
 have L := Below.refl w.heap.size w
 refine E.CI.seq (E.CI.wide ?_)
 refine E.cl ?_
 refine E.GL.st rfl rfl rfl (E.ST.alloc rfl info50z fun g4 w4 e4 b4 l4 => ?_)
 have h4 : w.heap.size ≤ g4 := by rw [e4]; exact L.size
 replace L := below_step L l4
 refine E.GL.st rfl rfl rfl (E.ST.allocZ rfl info4z rfl fun g5 w5 e5 b5 l5 => ?_)
 have h5 : w.heap.size ≤ g5 := by rw [e5]; exact L.size
 replace L := below_step L l5
 replace b4 := blk_below b4 l5
 refine E.gd (E.QG.codeI ?_)
 refine E.CI.seq ?_
 refine E.CI.seq (E.CI.wide ?_)
 refine E.cl (E.gm rfl rfl rfl (E.gm rfl rfl rfl ?_))
 refine E.GL.st rfl rfl rfl (E.ST.call rfl ent91 (E.evc rfl (E.evc rfl E.evn)) ((places91 D.gx (size : Int) _).mono ?_))
 rintro e w10 ⟨gX, gZ, rfl, bX1, bZ1, hX, hZ, l10⟩
 refine ⟨_, rfl, ?_⟩
 have h4X : g4 ≠ gX := by have := blk_lt b4; omega
 have h4Z : g4 ≠ gZ := by have := blk_lt b4; omega
 have h5X : g5 ≠ gX := by have := blk_lt b5; omega
 have h5Z : g5 ≠ gZ := by have := blk_lt b5; omega
 have h45 : g4 ≠ g5 := blk_ne b4 b5 (by decide)
 have hg4 : g4 < w10.heap.size := Nat.lt_of_lt_of_le (blk_lt b4) l10.size
 have hg5 : g5 < w10.heap.size := Nat.lt_of_lt_of_le (blk_lt b5) l10.size
 replace L := below_step L l10
 replace b4 := blk_below b4 l10
 replace b5 := blk_below b5 l10
 refine E.gd (E.QG.codeI ?_)
 refine E.CI.block ?_
 refine E.CI.rangeX (γ := Nat) (Kp := KB w.heap.size gX gZ) (by decide) rfl ent98 (places_stops hM hs6 hln h1 h12 L bX1 bZ1 _) (fun h k => h.trans k)
  (fun W l o o' hl ho hc hw => ⟨belowK_b L.size W l o o' hl ho hc hw, fun cs t f q => (World.putObj_heap_other (fun e => by subst e; rw [q] at ho; cases ho; cases hc)).trans q, fun cs t f q => (World.putObj_heap_other (fun e => by subst e; rw [q] at ho; cases ho; cases hc)).trans q⟩) (Below.refl _ _) (fun _ => rfl)
  (bI w w10 g4 g5) (bX w w10 g4 g5)
  (fun pre X Y row hi hg hrow => ⟨hi.1, own_blk hg hrow hi.2.1, own_blk hg hrow hi.2.2.1, own_below L.size hg hrow hi.2.2.2.1 hi.2.2.2.1.size, Nat.le_trans hi.2.2.2.2 hg.size⟩)
  (fun pre X Y row hi hg hrow => by
   obtain ⟨p0, x, q1, q2, q3, q4, q5, q6, q7⟩ := hi
   exact ⟨p0, x, q1, q2, q3, own_blk hg hrow q4, own_blk hg hrow q5, own_below L.size hg hrow q6 q6.size, Nat.le_trans q7 hg.size⟩)
  ⟨fun y hy => by simp at hy, b4, b5, L, Nat.le_refl _⟩
  (fun x => (12, .bool x.2) :: (11, .agg (pC x.1).toArray) :: [(4, .pointer (some ⟨g4, 0, none⟩)), (5, .pointer (some ⟨g5, 0, none⟩))])
  (fun x a ha => by
   have ha' := ha.sub (E.subc (k := 4) (v := .pointer (some ⟨g4, 0, none⟩)) rfl (E.subc (k := 5) (v := .pointer (some ⟨g5, 0, none⟩)) rfl E.subn))
   obtain ⟨t, d⟩ := a
   obtain rfl : d = [] := ha.defers
   rw [show (#[11, 12].zip (itP x)).foldl (fun (t : Array Value) (p, v) => t.setIfInBounds p v) t = ((t.setIfInBounds 11 (.agg (pC x.1).toArray)).setIfInBounds 12 (.bool x.2)) from by simp [itP]]
   exact (ha'.put (n := 11) (.agg (pC x.1).toArray) (by decide)).put (n := 12) (.bool x.2) (by decide))
  (fun x g6 => [(4, .pointer (some ⟨g4, 0, none⟩)), (5, .pointer (some ⟨g5, 0, none⟩)), (6, .pointer (some ⟨g6, 0, none⟩)), (7, .bool x.2)])
  (fun x g6 W => W.heap[g6]? = some (.cells (pC x.1).toArray 50 (0, 0)) ∧ w10.heap.size ≤ g6)
  (fun x g6 _ X Y row hi hg hrow => ⟨own_blk hg hrow hi.1, hi.2⟩)
  (fun l pre x W K hi hK => ?_) (fun l' pre x g6 W hi hx hlt => ?_) (fun Dd xs W hD hS hi hk => ?_) (fun Dd pre W hD hS hi hk => ?_)
 ·obtain ⟨q1, q2, q3, q5, q6⟩ := hi
  have hF := E.WF.wide.round l
  refine E.CI.seq ?_
  refine E.CI.list ?_
  refine E.GI.st rfl rfl rfl (SI.of hF rfl (E.ST.alloc rfl info50z fun g3 w3 e3 b3 l3 => ?_))
  refine E.GI.sn rfl rfl (SI.of hF rfl (E.ST.storeS (off := 0) (cells := pC x.1) rfl rfl rfl b3 rfl info50s (pl_one _) rfl fun w4 c3 l4 => ?_))
  refine E.GI.done ?_
  refine E.QG.codeI ?_
  refine E.CI.list ?_
  refine E.GI.run hF rfl rfl rfl rfl (E.Runs.assign rfl rfl) ?_
  refine E.GI.done ?_
  have hW : Below W.heap.size W w4 := new_stored l3 (by rw [e3]; exact Nat.le_refl _) l4
  intro a' ha'
  refine hK g3 w4 (keeps_below hW) (KB.of hW q5.size) ⟨q1, blk_below q2 hW, blk_below q3 hW, below_step q5 hW, Nat.le_trans q6 hW.size⟩ ⟨c3, by omega⟩ a' ?_
  exact ha'.sub (E.subc rfl (E.subc rfl (E.subc rfl (E.subc rfl E.subn))))
 ·obtain ⟨q1, q2, q3, q5, q6⟩ := hi
  obtain ⟨b6, hg6⟩ := hx
  have hF := E.WF.wide.round l'
  have n64 : g6 ≠ g4 := by omega
  have n65 : g6 ≠ g5 := by omega
  obtain ⟨p, gap⟩ := x
  refine E.CI.block ?_
  refine E.CI.seq ?_
  refine E.CI.seq ?_
  refine E.CI.list ?_
  refine E.GI.run hF rfl rfl rfl rfl (E.Runs.move rfl rfl) ?_
  cases gap with
  | false =>
   refine E.GI.run hF rfl rfl rfl rfl (E.Runs.not rfl rfl) ?_
   refine E.GI.done ?_
   refine E.QG.codeI ?_
   refine E.CI.cond_t rfl ?_
   refine E.CI.seq ?_
   refine E.CI.list ?_
   refine E.GI.run hF rfl rfl rfl rfl (E.Runs.loads (cs := pC p) rfl rfl hu50 rfl info50s (blk_cells b6)) ?_
   refine E.GI.sn rfl rfl (SI.of hF rfl (E.ST.storeS (off := 0) (cells := pC p) rfl rfl rfl q2 rfl info50s (pl_one _) rfl fun wa ca la => ?_))
   have q3a := blk_grown q3 la (E.nes (Ne.symm h45))
   refine E.GI.sn rfl rfl (SI.of hF rfl (E.ST.storeC rfl z4 o4 rfl rfl (.inl ⟨true, rfl⟩) (E.blkc q3a rfl) (blk_frozen q3a 0) ?_))
   refine E.GI.done ?_
   refine E.QG.codeI ?_
   refine E.CI.ret ?_
   refine E.QG.pass_ret (E.QG.block_ret ?_)
   intro a' ha'
   have lb : wa.grownBy (wa.setCell ⟨g5, 0, none⟩ (.bool true)) (some g5) := gb_set (World.grownBy.refl wa _) (.inr rfl) _
   have cb := blk_set q3a 0 (.bool true)
   have ca' := blk_grown ca lb (E.nes h45)
   refine ⟨(keeps_own q2 la).trans (keeps_own q3a lb), pre, (p, false), rfl, rfl, q1, ca', cb, ?_, ?_⟩
   ·exact E.below_own (E.below_own q5 h4 la) h5 lb
   ·exact Nat.le_trans q6 (Nat.le_trans la.size lb.size)
  | true =>
   refine E.GI.run hF rfl rfl rfl rfl (E.Runs.not rfl rfl) ?_
   refine E.GI.done ?_
   refine E.QG.codeI ?_
   refine E.CI.cond_f rfl ?_
   refine E.CI.skip ?_
   refine E.QG.codeI ?_
   refine E.CI.seq ?_
   refine E.CI.list ?_
   refine E.GI.run hF rfl rfl rfl rfl (E.Runs.load1 rfl rfl hu4 rfl (E.blkc q3 rfl)) ?_
   refine E.GI.run hF rfl rfl rfl rfl (E.Runs.not rfl rfl) ?_
   refine E.GI.done ?_
   refine E.QG.codeI ?_
   cases pre with
   | cons a t =>
    refine E.CI.cond_f rfl ?_
    refine E.CI.skip ?_
    refine E.QG.block_normal ?_
    intro a' ha'
    exact ⟨KeepsFrom.refl _ _, KB.of (Below.refl _ _) q5.size, fun y hy => by
     rcases List.mem_append.mp hy with hy | hy
     ·exact q1 y hy
     ·rw [List.mem_singleton.mp hy], q2, q3, q5, q6⟩
   | nil =>
    refine E.CI.cond_t rfl ?_
    refine E.CI.list ?_
    refine E.GI.run hF rfl rfl rfl rfl (E.Runs.loads (cs := pC p) rfl rfl hu50 rfl info50s (blk_cells b6)) ?_
    refine E.GI.sn rfl rfl (SI.of hF rfl (E.ST.storeS (off := 0) (cells := pC p) rfl rfl rfl q2 rfl info50s (pl_one _) rfl fun wa ca la => ?_))
    have q3a := blk_grown q3 la (E.nes (Ne.symm h45))
    refine E.GI.sn rfl rfl (SI.of hF rfl (E.ST.storeC rfl z4 o4 rfl rfl (.inl ⟨true, rfl⟩) (E.blkc q3a rfl) (blk_frozen q3a 0) ?_))
    refine E.GI.done ?_
    refine E.QG.block_normal ?_
    intro a' ha'
    have lb : wa.grownBy (wa.setCell ⟨g5, 0, none⟩ (.bool true)) (some g5) := gb_set (World.grownBy.refl wa _) (.inr rfl) _
    have cb := blk_set q3a 0 (.bool true)
    have ca' := blk_grown ca lb (E.nes h45)
    have k1 := KB.own la h4X h4Z h4 q5.size
    refine ⟨(keeps_own q2 la).trans (keeps_own q3a lb), k1.trans (KB.own lb h5X h5Z h5 (Nat.le_trans q5.size la.size)), fun y hy => by
     rw [List.nil_append, List.mem_singleton] at hy
     rw [hy], ca', cb, ?_, ?_⟩
    ·exact E.below_own (E.below_own q5 h4 la) h5 lb
    ·exact Nat.le_trans q6 (Nat.le_trans la.size lb.size)
 ·obtain ⟨q1, q2, q3, q5, q6⟩ := hi
  subst hS
  refine E.QD.block_normal ?_
  refine E.QD.codeI ?_
  refine E.CD.seq ?_
  obtain ⟨fp, hfp⟩ : ∃ p, firstP (allP size 0 S.rows) = p := ⟨_, rfl⟩
  obtain ⟨fb, hfb⟩ : ∃ b, (!(allP size 0 S.rows).isEmpty) = b := ⟨_, rfl⟩
  rw [hfp] at q2
  rw [hfb] at q3
  refine CD_cut [(4, .pointer (some ⟨g4, 0, none⟩)), (5, .pointer (some ⟨g5, 0, none⟩))] (fun w' => w'.heap[g4]? = some (.cells (pC fp).toArray 50 (0, 0)) ∧ w'.heap[g5]? = some (.cells #[.bool fb] 4 (0, 0)) ∧ Below w.heap.size w w' ∧ w'.heap[Dd]? = some (.deferred (some []))) ?_ ?_
  ·refine E.CD.heldJ E.WF.wide (fun _ _ h => nomatch h.1) (by rfl) 2 (fun v W => v.grownBy W none) (fun v W => W.heap[g5]? = some (.cells #[.bool fb] 4 (0, 0))) (by kernel_rfl) (by kernel_rfl) (fun v => World.grownBy.refl _ _) fun v8 lD => ?_
   have c4 := blk_below q2 lD
   have c5 := blk_below q3 lD
   refine E.GJ.take1 (i := 0) rfl (by kernel_rfl) (by kernel_rfl) (by kernel_rfl) (by kernel_rfl) rfl (by kernel_rfl) (by kernel_rfl) cutQ_calm rfl rfl rfl (fun w' hS => (E.Runs.loads (cs := pC fp) rfl rfl hu50 rfl info50s (blk_cells (blk_grown c4 hS E.nen)))) ?_
   refine E.GJ.take2 (i := 1) rfl (by kernel_rfl) (by kernel_rfl) (by kernel_rfl) (by kernel_rfl) cutQ_calm rfl rfl rfl (fun w' hS => (E.Runs.load1 rfl rfl hu4 rfl (by rcases hS with hS | hS; exact E.keeps hS (E.blkc (cs := [.bool fb]) c5 rfl) E.nen; exact E.blkc (cs := [.bool fb]) hS rfl))) ?_
   refine E.GJ.one (i := 2) (by kernel_rfl) (E.OJ.sn rfl rfl rfl (E.ST.storeS (off := 0) (cells := pC fp) rfl rfl rfl c4 rfl info50s (pl_one _) rfl fun wa ca la => ⟨(E.SJ.behind (by kernel_rfl)).mpr (blk_grown c5 la (E.nes (Ne.symm h45))), ?_⟩))
   have c5a := blk_grown c5 la (E.nes (Ne.symm h45))
   refine E.GJ.one (i := 3) (by kernel_rfl) (E.OJ.sn rfl rfl rfl (E.ST.storeC rfl z4 o4 rfl rfl (.inl ⟨_, rfl⟩) (E.blkc (cs := [.bool fb]) c5a rfl) (blk_frozen c5a 0) ⟨(E.SJ.behind (by kernel_rfl)).mpr (blk_set c5a 0 (.bool fb)), ?_⟩))
   have lb : wa.grownBy (wa.setCell ⟨g5, 0, none⟩ (.bool fb)) (some g5) := gb_set (World.grownBy.refl wa _) (.inr rfl) _
   refine E.GJ.done (by kernel_rfl) ?_
   refine cutQ_meet (E.subc rfl (E.subc rfl E.subn)) ⟨blk_grown ca lb (E.nes h45), blk_set c5a 0 (.bool fb), E.below_own (E.below_own (below_step q5 lD) h4 la) h5 lb, ?_⟩
   have k1 := blk_below hk lD
   have k2 := blk_grown k1 la (E.nes (fun e => by subst e; rw [c4] at k1; cases k1))
   exact blk_grown k2 lb (E.nes (fun e => by subst e; rw [c5] at k1; cases k1))
  ·rintro w' ⟨d4, d5, dL, dk⟩
   refine E.QD.codeI ?_
   refine E.CD.ret ?_
   refine E.QD.result_cb dk rfl rfl rfl d4 d5 hu50 rfl info50s hu4 ⟨fp, fb, rfl, ?_, ?_⟩
   ·rw [best_all q1, ← hfp, ← hfb]
    cases allP size 0 S.rows <;> rfl
   ·exact own_below L.size (grownBy_putObj' _ Dd (.deferred none)) (fun r e => by cases e; exact ⟨hD, _, dk, rfl⟩) dL dL.size
 ·obtain ⟨p0, x, e1, q2, q3, q4, q5, q6, q7⟩ := hi
  subst e1
  refine QD_block_ret ?_
  refine QD_pass_ret ?_
  refine E.QD.result_cb hk rfl rfl rfl q4 q5 hu50 rfl info50s hu4 ⟨x.1, true, rfl, best_at hS q3 q2, ?_⟩
  exact own_below L.size (grownBy_putObj' _ Dd (.deferred none)) (fun r e => by cases e; exact ⟨hD, _, hk, rfl⟩) q6 q6.size
end

end Go.Proofs.Ytkjefnlhhfpllaa.T
namespace Go.Proofs.Ytkjefnlhhfpllaa.T
open Go.RowKit Go.Proofs.YtkjefnlhhfpllaaW.PrintWords Go.Proofs.YtkjefnlhhfpllaaW.PrintMore
open Go.Proofs.Ytkjefnlhhfpllaa.P
set_option linter.unusedVariables false
set_option linter.unusedSimpArgs false

open Go.Proofs.Ytkjefnlhhfpllaa.E (Mf upd MfI MfJ)
section
variable {ns : List Int} {S : HS} {base : Nat} {w w' : World} {D : HD}
theorem upd_upd {ν : Type} (f : Int → Option ν) (n : Int) (a b : ν) : upd (upd f n a) n b = upd f n b := by
 funext m
 unfold upd
 split <;> rfl
theorem askS_not {n size minute : Int} {o : Od} (ho : (ofS S n).ord n = some o) (h : o.f0 ≠ 0) : askS S n size minute = ofS S n := by
 unfold askS
 simp only [ho]
 rw [if_pos h]
theorem askS_none {n minute : Int} {size : Nat} {o : Od} (ho : (ofS S n).ord n = some o) (h : ¬ o.f0 ≠ 0) (hb : bestP (allP size 0 (ofS S n).rows) = none) : askS S n size minute = ⟨(ofS S n).rows, upd (ofS S n).ord n ⟨1, o.f1, o.f2, size, minute⟩⟩ := by
 unfold askS
 simp only [ho, Int.toNat_natCast, hb]
 rw [if_neg h]
theorem askS_some {n minute : Int} {size r s : Nat} {o : Od} (ho : (ofS S n).ord n = some o) (h : ¬ o.f0 ≠ 0) (hb : bestP (allP size 0 (ofS S n).rows) = some ⟨0, r, s, size⟩) : askS S n size minute = ⟨fillR (ofS S n).rows r s n size, upd (ofS S n).ord n ⟨2, r, s, size, minute⟩⟩ := by
 unfold askS
 simp only [ho, Int.toNat_natCast, hb]
 rw [if_neg h]
theorem HI.l12 (h : HI ns S) (hr : AllR ns 1 12) : ∀ l ∈ S.rows, l.length ≤ 12 := fun l hl => by
 obtain ⟨i, hi⟩ := List.mem_iff_getElem?.mp hl
 obtain ⟨n, hn⟩ := get_ex (show i < ns.length by rw [← h.len]; exact get_lt hi)
 have h1 := h.row i l n hi hn
 have h2 := hr n (mem_of hn)
 omega
theorem it_no {κ ν : Type} [DecidableEq κ] {ek : κ → Value} {ev : ν → Value} {r g : Nat} {f : κ → Option ν} {Sx : List κ} {n : Nat} (h : MfI ek ev w r g f Sx n) : r ≠ g ∧ ∀ cs t q, w.heap[r]? ≠ some (.cells cs t q) := by
 obtain ⟨es, c, l, a, b, d, h1, h2, _⟩ := h
 refine ⟨fun e => ?_, fun cs t q e => ?_⟩
 ·rw [← e, h1] at h2
  cases h2
 ·rw [h1] at e
  cases e
theorem HM.iter {r n : Nat} {Sx : List Int} (h : HM base w D S) (i : MfI evI evP w r D.gm D.f Sx n) (k : w.grownBy w' (some r)) : HM base w' D S := h.other k fun g e => by
 cases e
 exact ⟨(it_no i).1, fun cs t q => absurd q ((it_no i).2 cs t _)⟩
theorem Kp.iter {r n gm : Nat} {f : Int → Option Nat} {Sx : List Int} (i : MfI evI evP w r gm f Sx n) (k : w.grownBy w' (some r)) (hr : base ≤ r) : Kp base w w' := Kp.gen k fun g e => by
 cases e
 exact ⟨hr, fun cs t f' q => absurd q ((it_no i).2 cs t _)⟩
theorem HI.lapF (h : HI ns S) (hold minute : Int) (ks : List Int) : HI ns (ks.foldl (T.lapN hold minute) S) := by
 induction ks generalizing S with
 | nil => exact h
 | cons n t ih => exact ih (h.lapN hold minute n)
end
set_option maxRecDepth 100000 in
set_option maxHeartbeats 8000000 in

theorem ask62 {base : Nat} {D : HD} {S : HS} {w : World} (hM : HM base w D S) {ns : List Int} {hold : Int} (hI : HI ns S) (ok : HOk ns hold) (n minute : Int) (size : Nat) (h1 : 1 ≤ size) (h12 : size ≤ 12) :
  Calls Try.prog 62 #[.pointer (some ⟨D.gx, 0, none⟩), .int .i64 n, .int .i64 (size : Int), .int .i64 minute] w fun e w' => ∃ f : Int → Option Nat, e = .returned (.tuple #[]) ∧ HM base w' { D with f := f } (askS S n size minute) ∧ Kp base w w' := by
 have hn6 := ok.n
 have hlen := hI.len
 have hlr0 := hM.lr
 have hu3 := Try.underlying3
 have hu22 := Try.underlying22
 have hu45 := Try.underlying45
 have hu50 := Try.underlying50
 have hu74 := Try.underlying74
 have hu76 := Try.underlying76
 have hu77 := Try.underlying77
 obtain ⟨z3, o3⟩ := info_some info3s (by decide)
 obtain ⟨z22, o22⟩ := info_some info22s (by decide)
 obtain ⟨z24, o24⟩ := info_some info24s (by decide)
 obtain ⟨z45, o45⟩ := info_some info45s (by decide)
 obtain ⟨z50, o50⟩ := info_some info50s (by decide)
 refine E.enter (N := 77) Try.func62 rfl Try.ntmps62 (args := [.pointer (some ⟨D.gx, 0, none⟩), .int .i64 n, .int .i64 (size : Int), .int .i64 minute]) (by simp) ?_
 have K := Kp.refl base w
 refine E.cs (E.cl (E.gm rfl rfl rfl (E.gm rfl rfl rfl ?_)))
 refine E.GL.st rfl rfl rfl (E.ST.call rfl ent21 (E.evc rfl (E.evc rfl E.evn)) ((of21 base D S _ hM n).mono ?_))
 rintro e w14 ⟨g1, f, rfl, hM, hf, K1⟩
 refine ⟨_, rfl, ?_⟩
 replace K := K.trans K1
 obtain ⟨o, ho⟩ := ofS_get S n
 have hI1 := hI.of n
 have hlr := hM.lr
 have hlen1 := hI1.len
 obtain ⟨o', ho', b1⟩ := hM.ord hf
 rw [ho] at ho'
 cases ho'
 refine E.ga rfl rfl rfl (E.gd (E.qc (E.cs (E.cs (E.cl (E.gm rfl rfl rfl (E.gr rfl (E.Runs.nilCheck rfl rfl) ?_)))))))
 refine E.gr rfl (E.Runs.fieldAddr rfl rfl hu76 rfl (by assumption) rfl) ?_
 refine E.gr rfl (E.Runs.fieldAddr rfl rfl hu50 rfl (by assumption) rfl) ?_
 refine E.gr rfl (E.Runs.load rfl rfl hu3 (by first | assumption | exact E.blkc (by assumption) rfl)) ?_
 refine E.GL.cmpn rfl rfl rfl (fun _ h => (E.Runs.neq rfl rfl rfl h)) (fun h20 => ?_) (fun h20 => ?_)
 ·refine E.gd (E.qc (E.CG.cond_t rfl (E.CG.ret (E.QG.pass_ret ?_))))
  exact E.QG.result0 rfl ⟨f, rfl, by rw [askS_not ho h20]; exact hM, K⟩
 ·refine E.gd (E.qc (E.CG.cond_f rfl (E.CG.skip (E.qc (E.cs (E.cl (E.gm rfl rfl rfl (E.gm rfl rfl rfl ?_))))))))
  refine E.GL.st rfl rfl rfl (E.ST.call rfl ent75 (E.evc rfl (E.evc rfl E.evn)) ((best75 hM (by show D.hs.length ≤ 6; omega) (hI1.l12 ok.r) size h1 h12).mono ?_))
  rintro e w24 ⟨p, fd, rfl, hbest, l24⟩
  refine ⟨_, rfl, ?_⟩
  replace b1 := blk_below b1 l24
  replace hM := hM.below l24
  replace K := K.trans (Kp.of l24)
  refine E.gm rfl rfl rfl (E.gr rfl (E.Runs.extract rfl rfl rfl) ?_)
  rcases fd with _ | _
  ·have hbn : bestP (allP size 0 (ofS S n).rows) = none := hbest
   refine E.gr rfl (E.Runs.extract rfl rfl rfl) ?_
   refine E.GL.st rfl rfl rfl (E.ST.alloc rfl info50z fun g9 w9 e9 b9 l9 => ?_)
   have n9_b1 : g1 ≠ g9 := by have := blk_lt b1; omega
   replace b1 := blk_below b1 l9
   refine E.GL.store_whole rfl rfl rfl rfl rfl b9 rfl info50s (pl_one _) fun wS2_7 c9 lS2_7 => ?_
   replace b1 := blk_grown b1 lS2_7 (E.nes (by first | assumption | exact Ne.symm (by assumption)))
   replace b9 := c9
   clear c9
   have l27 := new_stored l9 (by rw [e9]; exact Nat.le_refl _) lS2_7
   replace hM := hM.below l27
   replace K := K.trans (Kp.of l27)
   refine E.ga rfl rfl rfl (E.gd (E.qc (E.cs (E.cl (E.gm rfl rfl rfl (E.gm rfl rfl rfl (E.gm rfl rfl rfl (E.gm rfl rfl rfl (E.gm rfl rfl rfl ?_)))))))))
   refine E.gr rfl (E.Runs.nilCheck rfl rfl) ?_
   refine E.gr rfl (E.Runs.fieldAddr rfl rfl hu76 rfl (by assumption) rfl) ?_
   refine E.gr rfl (E.Runs.fieldAddr rfl rfl hu50 rfl (by assumption) rfl) ?_
   refine E.GL.sn rfl rfl (E.ST.store rfl z3 o3 rfl rfl b1 rfl (show _ = #[.int .i64 1, .int .i64 o.f1, .int .i64 o.f2, .int .i64 o.f3, .int .i64 o.f4] from rfl) fun wA cA lA => ?_)
   refine E.gr rfl (E.Runs.nilCheck rfl rfl) ?_
   refine E.gr rfl (E.Runs.fieldAddr rfl rfl hu76 rfl (by assumption) rfl) ?_
   refine E.gr rfl (E.Runs.fieldAddr rfl rfl hu50 rfl (by assumption) rfl) ?_
   refine E.GL.sn rfl rfl (E.ST.store rfl z3 o3 rfl rfl cA rfl (show _ = #[.int .i64 1, .int .i64 o.f1, .int .i64 o.f2, .int .i64 (size : Int), .int .i64 o.f4] from rfl) fun wB cB lB => ?_)
   refine E.gr rfl (E.Runs.nilCheck rfl rfl) ?_
   refine E.gr rfl (E.Runs.fieldAddr rfl rfl hu76 rfl (by assumption) rfl) ?_
   refine E.GL.sn rfl rfl (E.ST.store rfl z3 o3 rfl rfl cB rfl (show _ = #[.int .i64 1, .int .i64 o.f1, .int .i64 o.f2, .int .i64 (size : Int), .int .i64 minute] from rfl) fun wC cC lC => ?_)
   have lABC := (lA.trans lB).trans lC
   have hbo := (hM.o n g1 hf).1
   replace K := K.trans (Kp.own lABC b1 hbo (by simp))
   replace hM := hM.setO (o := ⟨1, o.f1, o.f2, size, minute⟩) hf cC lABC
   replace b9 := blk_grown b9 lABC (E.nes (Ne.symm n9_b1))
   clear b1
   have b1 := cC
   clear cA cB lA lB lC lABC cC
   refine E.gd (E.qc (E.cs (E.cs (E.cl (E.gm rfl rfl rfl (E.gr rfl (E.Runs.not rfl rfl) ?_))))))
   refine E.gd (E.qc (E.CG.cond_t rfl (E.CG.ret (E.QG.pass_ret ?_))))
   exact E.QG.result0 rfl ⟨f, rfl, by rw [askS_none ho (by simpa using h20) hbn]; exact hM, K⟩
  ·have hbs : bestP (allP size 0 (ofS S n).rows) = some p := hbest
   obtain ⟨b0, hb0⟩ := bestP_mem hbs
   obtain ⟨r, s, l, hpe, hl, hk⟩ := (allP_ok h1 _ hb0).at_
   rw [show p = ⟨0, r, s, size⟩ from hpe] at hbs ⊢
   have hl12 := hI1.l12 ok.r l (mem_of hl)
   have hrl : r < (ofS S n).rows.length := get_lt hl
   have hlg : (ofS S n).rows.getD r [] = l := getD_el hl
   refine E.gr rfl (E.Runs.extract rfl rfl rfl) ?_
   refine E.GL.st rfl rfl rfl (E.ST.alloc rfl info50z fun g9 w9 e9 b9 l9 => ?_)
   have n9_b1 : g1 ≠ g9 := by have := blk_lt b1; omega
   replace b1 := blk_below b1 l9
   refine E.GL.store_whole rfl rfl rfl rfl rfl b9 rfl info50s (pl_one _) fun wS2_7 c9 lS2_7 => ?_
   replace b1 := blk_grown b1 lS2_7 (E.nes (by first | assumption | exact Ne.symm (by assumption)))
   replace b9 := c9
   clear c9
   have l27 := new_stored l9 (by rw [e9]; exact Nat.le_refl _) lS2_7
   replace hM := hM.below l27
   replace K := K.trans (Kp.of l27)
   refine E.ga rfl rfl rfl (E.gd (E.qc (E.cs (E.cl (E.gm rfl rfl rfl (E.gm rfl rfl rfl (E.gm rfl rfl rfl (E.gm rfl rfl rfl (E.gm rfl rfl rfl ?_)))))))))
   refine E.gr rfl (E.Runs.nilCheck rfl rfl) ?_
   refine E.gr rfl (E.Runs.fieldAddr rfl rfl hu76 rfl (by assumption) rfl) ?_
   refine E.gr rfl (E.Runs.fieldAddr rfl rfl hu50 rfl (by assumption) rfl) ?_
   refine E.GL.sn rfl rfl (E.ST.store rfl z3 o3 rfl rfl b1 rfl (show _ = #[.int .i64 1, .int .i64 o.f1, .int .i64 o.f2, .int .i64 o.f3, .int .i64 o.f4] from rfl) fun wA cA lA => ?_)
   refine E.gr rfl (E.Runs.nilCheck rfl rfl) ?_
   refine E.gr rfl (E.Runs.fieldAddr rfl rfl hu76 rfl (by assumption) rfl) ?_
   refine E.gr rfl (E.Runs.fieldAddr rfl rfl hu50 rfl (by assumption) rfl) ?_
   refine E.GL.sn rfl rfl (E.ST.store rfl z3 o3 rfl rfl cA rfl (show _ = #[.int .i64 1, .int .i64 o.f1, .int .i64 o.f2, .int .i64 (size : Int), .int .i64 o.f4] from rfl) fun wB cB lB => ?_)
   refine E.gr rfl (E.Runs.nilCheck rfl rfl) ?_
   refine E.gr rfl (E.Runs.fieldAddr rfl rfl hu76 rfl (by assumption) rfl) ?_
   refine E.GL.sn rfl rfl (E.ST.store rfl z3 o3 rfl rfl cB rfl (show _ = #[.int .i64 1, .int .i64 o.f1, .int .i64 o.f2, .int .i64 (size : Int), .int .i64 minute] from rfl) fun wC cC lC => ?_)
   have lABC := (lA.trans lB).trans lC
   have hbo := (hM.o n g1 hf).1
   replace K := K.trans (Kp.own lABC b1 hbo (by simp))
   replace hM := hM.setO (o := ⟨1, o.f1, o.f2, size, minute⟩) hf cC lABC
   replace b9 := blk_grown b9 lABC (E.nes (Ne.symm n9_b1))
   clear b1
   have b1 := cC
   clear cA cB lA lB lC lABC cC
   refine E.gd (E.qc (E.cs (E.cs (E.cl (E.gm rfl rfl rfl (E.gr rfl (E.Runs.not rfl rfl) ?_))))))
   refine E.gd (E.qc (E.CG.cond_f rfl (E.CG.skip (E.qc (E.cs (E.CG.heldJ 10 (fun v W => v.grownBy W (none)) (fun v W => v.grownBy W (some g1)) (by kernel_rfl) (by kernel_rfl) (fun v => World.grownBy.refl _ _) fun v5 lD => ?_))))))
   replace b1 := blk_below b1 lD
   replace b9 := blk_below b9 lD
   have lD5 := lD
   clear lD
   replace hM := hM.below lD5
   replace K := K.trans (Kp.of lD5)
   have s_b1 := b1
   have s_b9 := b9
   refine E.GJ.take1 (i := 0) rfl (by kernel_rfl) (by kernel_rfl) (by kernel_rfl) (by kernel_rfl) rfl (by kernel_rfl) (by kernel_rfl) (by intro c a d v w h; first | (cases d <;> exact h) | exact nomatch (show _ ∧ _ from h).1) rfl rfl rfl (fun w' hS => (E.Runs.move rfl rfl)) ?_
   refine E.GJ.take2 (i := 1) rfl (by kernel_rfl) (by kernel_rfl) (by kernel_rfl) (by kernel_rfl) (by intro c a d v w h; first | (cases d <;> exact h) | exact nomatch (show _ ∧ _ from h).1) rfl rfl rfl (fun w' hS => (E.Runs.move rfl rfl)) ?_
   refine E.GJ.take2 (i := 2) rfl (by kernel_rfl) (by kernel_rfl) (by kernel_rfl) (by kernel_rfl) (by intro c a d v w h; first | (cases d <;> exact h) | exact nomatch (show _ ∧ _ from h).1) rfl rfl rfl (fun w' hS => (E.Runs.move rfl rfl)) ?_
   refine E.GJ.take2 (i := 3) rfl (by kernel_rfl) (by kernel_rfl) (by kernel_rfl) (by kernel_rfl) (by intro c a d v w h; first | (cases d <;> exact h) | exact nomatch (show _ ∧ _ from h).1) rfl rfl rfl (fun w' hS => (E.Runs.fieldAddr rfl rfl hu50 rfl (by assumption) rfl)) ?_
   refine E.GJ.take2 (i := 4) rfl (by kernel_rfl) (by kernel_rfl) (by kernel_rfl) (by kernel_rfl) (by intro c a d v w h; first | (cases d <;> exact h) | exact nomatch (show _ ∧ _ from h).1) rfl rfl rfl (fun w' hS => (E.Runs.load rfl rfl hu3 (by rcases hS with hS | hS; exact E.keeps hS (E.blkc b9 rfl) E.nen; exact E.keeps hS (E.blkc b9 rfl) (E.nes (Ne.symm n9_b1))))) ?_
   refine E.GJ.take2 (i := 5) rfl (by kernel_rfl) (by kernel_rfl) (by kernel_rfl) (by kernel_rfl) (by intro c a d v w h; first | (cases d <;> exact h) | exact nomatch (show _ ∧ _ from h).1) rfl rfl rfl (fun w' hS => (E.Runs.fieldAddr rfl rfl hu50 rfl (by assumption) rfl)) ?_
   refine E.GJ.take2 (i := 6) rfl (by kernel_rfl) (by kernel_rfl) (by kernel_rfl) (by kernel_rfl) (by intro c a d v w h; first | (cases d <;> exact h) | exact nomatch (show _ ∧ _ from h).1) rfl rfl rfl (fun w' hS => (E.Runs.load rfl rfl hu3 (by rcases hS with hS | hS; exact E.keeps hS (E.blkc b9 rfl) E.nen; exact E.keeps hS (E.blkc b9 rfl) (E.nes (Ne.symm n9_b1))))) ?_
   refine E.GJ.take2 (i := 7) rfl (by kernel_rfl) (by kernel_rfl) (by kernel_rfl) (by kernel_rfl) (by intro c a d v w h; first | (cases d <;> exact h) | exact nomatch (show _ ∧ _ from h).1) rfl rfl rfl (fun w' hS => (E.Runs.nilCheck rfl rfl)) ?_
   refine E.GJ.take2 (i := 8) rfl (by kernel_rfl) (by kernel_rfl) (by kernel_rfl) (by kernel_rfl) (by intro c a d v w h; first | (cases d <;> exact h) | exact nomatch (show _ ∧ _ from h).1) rfl rfl rfl (fun w' hS => (E.Runs.fieldAddr rfl rfl hu76 rfl (by assumption) rfl)) ?_
   refine E.GJ.take1 (i := 9) rfl (by kernel_rfl) (by kernel_rfl) (by kernel_rfl) (by kernel_rfl) rfl (by kernel_rfl) (by kernel_rfl) (by intro c a d v w h; first | (cases d <;> exact h) | exact nomatch (show _ ∧ _ from h).1) rfl rfl rfl (fun w' hS => (E.Runs.fieldAddr rfl rfl hu50 rfl (by assumption) rfl)) ?_
   refine E.GJ.one (i := 10) (by kernel_rfl) (E.OJ.sn rfl rfl rfl (E.ST.store rfl z3 o3 rfl rfl b1 rfl (show _ = #[.int .i64 2, .int .i64 o.f1, .int .i64 o.f2, .int .i64 (size : Int), .int .i64 minute] from rfl) fun wA cA lA => ⟨(E.SJ.behind (by kernel_rfl)).mpr lA, ?_⟩))
   have hS0 := lA
   refine E.GJ.one (i := 11) (by kernel_rfl) (E.OJ.st rfl rfl rfl rfl (E.ST.reads (E.Runs.nilCheck rfl rfl) ⟨(E.SJ.behind (by kernel_rfl)).mpr hS0, ?_⟩))
   refine E.GJ.one (i := 12) (by kernel_rfl) (E.OJ.st rfl rfl rfl rfl (E.ST.reads (E.Runs.fieldAddr rfl rfl hu76 rfl (by assumption) rfl) ⟨(E.SJ.behind (by kernel_rfl)).mpr hS0, ?_⟩))
   refine E.GJ.one (i := 13) (by kernel_rfl) (E.OJ.st rfl rfl rfl rfl (E.ST.reads (E.Runs.fieldAddr rfl rfl hu50 rfl (by assumption) rfl) ⟨(E.SJ.behind (by kernel_rfl)).mpr hS0, ?_⟩))
   refine E.GJ.one (i := 14) (by kernel_rfl) (E.OJ.sn rfl rfl rfl (E.ST.store rfl z3 o3 rfl rfl cA rfl (show _ = #[.int .i64 2, .int .i64 (r : Int), .int .i64 o.f2, .int .i64 (size : Int), .int .i64 minute] from rfl) fun wB cB lB => ⟨(E.SJ.behind (by kernel_rfl)).mpr (lA.trans lB), ?_⟩))
   replace hS0 := lA.trans lB
   refine E.GJ.one (i := 15) (by kernel_rfl) (E.OJ.st rfl rfl rfl rfl (E.ST.reads (E.Runs.nilCheck rfl rfl) ⟨(E.SJ.behind (by kernel_rfl)).mpr hS0, ?_⟩))
   refine E.GJ.one (i := 16) (by kernel_rfl) (E.OJ.st rfl rfl rfl rfl (E.ST.reads (E.Runs.fieldAddr rfl rfl hu76 rfl (by assumption) rfl) ⟨(E.SJ.behind (by kernel_rfl)).mpr hS0, ?_⟩))
   refine E.GJ.one (i := 17) (by kernel_rfl) (E.OJ.st rfl rfl rfl rfl (E.ST.reads (E.Runs.fieldAddr rfl rfl hu50 rfl (by assumption) rfl) ⟨(E.SJ.behind (by kernel_rfl)).mpr hS0, ?_⟩))
   refine E.GJ.one (i := 18) (by kernel_rfl) (E.OJ.sn rfl rfl rfl (E.ST.store rfl z3 o3 rfl rfl cB rfl (show _ = #[.int .i64 2, .int .i64 (r : Int), .int .i64 (s : Int), .int .i64 (size : Int), .int .i64 minute] from rfl) fun wC cC lC => ⟨(E.SJ.behind (by kernel_rfl)).mpr ((lA.trans lB).trans lC), ?_⟩))
   refine E.GJ.done (by kernel_rfl) ?_
   have lABC := (lA.trans lB).trans lC
   have hbo := (hM.o n g1 hf).1
   replace K := K.trans (Kp.own lABC b1 hbo (by simp))
   replace hM := hM.setO (o := ⟨2, r, s, size, minute⟩) hf cC lABC
   replace b9 := blk_grown b9 lABC (E.nes (Ne.symm n9_b1))
   rw [upd_upd] at hM
   refine E.qc (E.cs (E.cl (E.gm rfl rfl rfl (E.gm rfl rfl rfl (E.gd (E.qc (E.CG.block ?_)))))))
   have s7_b1 := b1
   have s7_b9 := b9
   refine E.CG.loop (fun (j : Nat) => [(0, .pointer (some ⟨D.gx, 0, none⟩)), (1, .int .i64 n), (9, .pointer (some ⟨g9, 0, none⟩)), (58, .int .i64 (size : Int)), (59, .int .i64 j)]) (fun j w' => j ≤ size ∧ HM base w' { D with f := f } ⟨fillR (ofS S n).rows r s n j, upd (ofS S n).ord n ⟨2, r, s, size, minute⟩⟩ ∧ Kp base w w' ∧ w'.heap[g9]? = some (.cells (pC ⟨0, r, s, size⟩).toArray 50 (0, 0))) (fun j => size - j) 0 (E.subc rfl (E.subc rfl (E.subc rfl (E.subc rfl (E.subc rfl E.subn))))) ⟨Nat.zero_le _, by rw [fillR_zero]; exact hM, K, b9⟩ ?_
   rintro j w7 ⟨hj, hM, K, b9⟩
   have bx := hM.x
   have hlj : (⟨fillR (ofS S n).rows r s n j, upd (ofS S n).ord n ⟨2, r, s, size, minute⟩⟩ : HS).rows[r]? = some (fill l s n j) := by rw [← hlg]; exact fillR_at hrl s n j
   obtain ⟨q, hp, hpl, bp, hh⟩ := hM.row hlj
   have hpb := (hM.r r q hp).1
   have hril : r < D.hs.length := get_lt hp
   refine E.cs (E.cl ?_)
   refine E.GL.cmp rfl rfl rfl (fun _ h => (E.Runs.lss rfl rfl rfl h)) (fun h60 => ?_) (fun h60 => ?_)
   ·refine E.gd (E.qc (E.cs (E.CG.cond_t rfl (E.CG.skip (E.qc (E.cs (E.CG.block (E.cs (E.cl ?_)))))))))
    refine E.gm rfl rfl rfl (E.ga rfl rfl rfl (E.gd (E.qc (E.CG.heldJ 14 (fun v W => v.grownBy W (none)) (fun _ _ => True) (by kernel_rfl) (by kernel_rfl) (fun v => World.grownBy.refl _ _) fun v9 lD => ?_))))
    replace b9 := blk_below b9 lD
    replace bx := blk_below bx lD
    replace bp := blk_below bp lD
    have lD9 := lD
    clear lD
    replace hM := hM.below lD9
    replace K := K.trans (Kp.of lD9)
    replace hh := pw_cell_below lD9 hh
    have s_b9 := b9
    have s_bx := bx
    have s_bp := bp
    refine E.GJ.take1 (i := 0) rfl (by kernel_rfl) (by kernel_rfl) (by kernel_rfl) (by kernel_rfl) rfl (by kernel_rfl) (by kernel_rfl) (by intro c a d v w h; first | (cases d <;> exact h) | exact nomatch (show _ ∧ _ from h).1) rfl rfl rfl (fun w' hS => (E.Runs.move rfl rfl)) ?_
    refine E.GJ.take1 (i := 1) rfl (by kernel_rfl) (by kernel_rfl) (by kernel_rfl) (by kernel_rfl) rfl (by kernel_rfl) (by kernel_rfl) (by intro c a d v w h; first | (cases d <;> exact h) | exact nomatch (show _ ∧ _ from h).1) rfl rfl rfl (fun w' hS => (E.Runs.nilCheck rfl rfl)) ?_
    refine E.GJ.take1 (i := 2) rfl (by kernel_rfl) (by kernel_rfl) (by kernel_rfl) (by kernel_rfl) rfl (by kernel_rfl) (by kernel_rfl) (by intro c a d v w h; first | (cases d <;> exact h) | exact nomatch (show _ ∧ _ from h).1) rfl rfl rfl (fun w' hS => (E.Runs.fieldAddr rfl rfl hu74 rfl (by assumption) rfl)) ?_
    refine E.GJ.take1 (i := 3) rfl (by kernel_rfl) (by kernel_rfl) (by kernel_rfl) (by kernel_rfl) rfl (by kernel_rfl) (by kernel_rfl) (by intro c a d v w h; first | (cases d <;> exact h) | exact nomatch (show _ ∧ _ from h).1) rfl rfl rfl (fun w' hS => (E.Runs.load1 rfl rfl hu45 rfl (by first | exact E.keeps hS (E.blkc (by assumption) rfl) (by first | exact E.nen | exact E.nes (by assumption) | exact E.nes (Ne.symm (by assumption)))))) ?_
    refine E.GJ.take1 (i := 4) rfl (by kernel_rfl) (by kernel_rfl) (by kernel_rfl) (by kernel_rfl) rfl (by kernel_rfl) (by kernel_rfl) (by intro c a d v w h; first | (cases d <;> exact h) | exact nomatch (show _ ∧ _ from h).1) rfl rfl rfl (fun w' hS => (E.Runs.fieldAddr rfl rfl hu50 rfl (by assumption) rfl)) ?_
    refine E.GJ.take1 (i := 5) rfl (by kernel_rfl) (by kernel_rfl) (by kernel_rfl) (by kernel_rfl) rfl (by kernel_rfl) (by kernel_rfl) (by intro c a d v w h; first | (cases d <;> exact h) | exact nomatch (show _ ∧ _ from h).1) rfl rfl rfl (fun w' hS => (E.Runs.load rfl rfl hu3 (by first | exact E.keeps hS (E.blkc (by assumption) rfl) (by first | exact E.nen | exact E.nes (by assumption) | exact E.nes (Ne.symm (by assumption)))))) ?_
    refine E.GJ.take1 (i := 6) rfl (by kernel_rfl) (by kernel_rfl) (by kernel_rfl) (by kernel_rfl) rfl (by kernel_rfl) (by kernel_rfl) (by intro c a d v w h; first | (cases d <;> exact h) | exact nomatch (show _ ∧ _ from h).1) rfl rfl rfl (fun w' hS => (E.Runs.indexAddrA (i := r) rfl rfl rfl hu45 z22 o22 (by omega) rfl (add1 _ _))) ?_
    refine E.GJ.take1 (i := 7) rfl (by kernel_rfl) (by kernel_rfl) (by kernel_rfl) (by kernel_rfl) rfl (by kernel_rfl) (by kernel_rfl) (by intro c a d v w h; first | (cases d <;> exact h) | exact nomatch (show _ ∧ _ from h).1) rfl rfl rfl (fun w' hS => (E.Runs.load1 rfl rfl hu22 rfl (E.keeps hS hh E.nen))) ?_
    refine E.GJ.take1 (i := 8) rfl (by kernel_rfl) (by kernel_rfl) (by kernel_rfl) (by kernel_rfl) rfl (by kernel_rfl) (by kernel_rfl) (by intro c a d v w h; first | (cases d <;> exact h) | exact nomatch (show _ ∧ _ from h).1) rfl rfl rfl (fun w' hS => (E.Runs.fieldAddr rfl rfl hu50 rfl (by assumption) rfl)) ?_
    refine E.GJ.take1 (i := 9) rfl (by kernel_rfl) (by kernel_rfl) (by kernel_rfl) (by kernel_rfl) rfl (by kernel_rfl) (by kernel_rfl) (by intro c a d v w h; first | (cases d <;> exact h) | exact nomatch (show _ ∧ _ from h).1) rfl rfl rfl (fun w' hS => (E.Runs.load rfl rfl hu3 (by first | exact E.keeps hS (E.blkc (by assumption) rfl) (by first | exact E.nen | exact E.nes (by assumption) | exact E.nes (Ne.symm (by assumption)))))) ?_
    refine E.GJ.take1 (i := 10) rfl (by kernel_rfl) (by kernel_rfl) (by kernel_rfl) (by kernel_rfl) rfl (by kernel_rfl) (by kernel_rfl) (by intro c a d v w h; first | (cases d <;> exact h) | exact nomatch (show _ ∧ _ from h).1) rfl rfl rfl (fun w' hS => (E.Runs.move rfl rfl)) ?_
    refine E.GJ.take1 (i := 11) rfl (by kernel_rfl) (by kernel_rfl) (by kernel_rfl) (by kernel_rfl) rfl (by kernel_rfl) (by kernel_rfl) (by intro c a d v w h; first | (cases d <;> exact h) | exact nomatch (show _ ∧ _ from h).1) rfl rfl rfl (fun w' hS => (E.Runs.add (r := ((s + j : Nat) : Int)) rfl rfl rfl (by rw [show (s : Int) + (j : Int) = ((s + j : Nat) : Int) by omega]; exact IntWalk.i64_in _ (by omega)))) ?_
    refine E.GJ.take1 (i := 12) rfl (by kernel_rfl) (by kernel_rfl) (by kernel_rfl) (by kernel_rfl) rfl (by kernel_rfl) (by kernel_rfl) (by intro c a d v w h; first | (cases d <;> exact h) | exact nomatch (show _ ∧ _ from h).1) rfl rfl rfl (fun w' hS => (E.Runs.move rfl rfl)) ?_
    refine E.GJ.take1 (i := 13) rfl (by kernel_rfl) (by kernel_rfl) (by kernel_rfl) (by kernel_rfl) rfl (by kernel_rfl) (by kernel_rfl) (by intro c a d v w h; first | (cases d <;> exact h) | exact nomatch (show _ ∧ _ from h).1) rfl rfl rfl (fun w' hS => (E.Runs.indexAddrA (i := s + j) rfl rfl rfl hu22 z3 o3 (by rw [fill_len]; omega) rfl (add1 _ _))) ?_
    refine E.GJ.one (i := 14) (by kernel_rfl) (E.OJ.sn rfl rfl rfl (E.ST.store (cs := (rwC (fill l s n j)).toArray) (cs' := (rwC ((fill l s n j).set (s + j) n)).toArray) rfl z3 o3 rfl rfl bp (rw_blt (by rw [fill_len]; omega)) (rw_set _ _ _) fun w14 c14 c14g => ⟨(E.SJ.behind (by kernel_rfl)).mpr trivial, ?_⟩))
    replace K := K.trans (Kp.own c14g bp hpb (.inl rfl))
    replace b9 := blk_grown b9 c14g (E.nes (blk_ne b9 bp (by decide)))
    have hM2 := hM.setR hp hlj (by rw [List.length_set]) c14 c14g
    rw [show (⟨(fillR (ofS S n).rows r s n j).set r ((fill l s n j).set (s + j) n), upd (ofS S n).ord n ⟨2, r, s, size, minute⟩⟩ : HS) = ⟨fillR (ofS S n).rows r s n (j + 1), upd (ofS S n).ord n ⟨2, r, s, size, minute⟩⟩ from by rw [← hlg, fillR_succ hrl]] at hM2
    refine E.GJ.done (by kernel_rfl) ?_
    refine E.QG.block_normal (E.qc (E.cl (E.gr rfl (E.Runs.add rfl rfl rfl (IntWalk.i64_in _ (by omega))) ?_)))
    refine E.gm rfl rfl rfl (E.gd ?_)
    exact E.QG.round (j + 1) (E.subc rfl (E.subc rfl (E.subc rfl (E.subc rfl (E.subc rfl E.subn))))) ⟨by omega, hM2, K, b9⟩ (by omega)
   ·refine E.gd (E.qc (E.cs (E.CG.cond_f rfl (E.CG.exit (E.QG.pass_exit (E.QG.pass_exit (E.QG.block_here ?_)))))))
    have hjs : j = size := by omega
    rw [hjs] at hM
    exact E.QG.result_n0 rfl ⟨f, rfl, by rw [askS_some ho (by simpa using h20) hbs]; exact hM, K⟩

set_option maxRecDepth 100000 in
set_option maxHeartbeats 8000000 in

theorem lapse45 {base : Nat} {D : HD} {S : HS} {w : World} (hM : HM base w D S) {ns : List Int} {hold : Int} (hI : HI ns S) (ok : HOk ns hold) (minute : Int) (hm : 0 ≤ minute ∧ minute ≤ 9999) (hh : D.hold = hold) :
  Calls Try.prog 45 #[.pointer (some ⟨D.gx, 0, none⟩), .int .i64 minute] w fun e w' => ∃ S', e = .returned (.tuple #[]) ∧ HM base w' D S' ∧ Lap hold minute S S' ∧ Kp base w w' := by
 have hn6 := ok.n
 have hlen := hI.len
 have hlr0 := hM.lr
 subst hh
 have hho := ok.h
 unfold inR at hho
 have bx := hM.x
 have hu3 := Try.underlying3
 have hu24 := Try.underlying24
 have hu50 := Try.underlying50
 have hu72 := Try.underlying72
 have hu74 := Try.underlying74
 have hu76 := Try.underlying76
 have hu77 := Try.underlying77
 obtain ⟨z3, o3⟩ := info_some info3s (by decide)
 obtain ⟨z22, o22⟩ := info_some info22s (by decide)
 obtain ⟨z24, o24⟩ := info_some info24s (by decide)
 obtain ⟨z45, o45⟩ := info_some info45s (by decide)
 obtain ⟨z50, o50⟩ := info_some info50s (by decide)
 obtain ⟨z72, o72⟩ := info_some info72s (by decide)
 refine E.enter (N := 38) Try.func45 rfl Try.ntmps45 (args := [.pointer (some ⟨D.gx, 0, none⟩), .int .i64 minute]) (by simp) ?_
 have K := Kp.refl base w
 have hM0 := hM
 refine E.cs (E.cl (E.gm rfl rfl rfl (E.gr rfl (E.Runs.nilCheck rfl rfl) ?_)))
 refine E.gr rfl (E.Runs.fieldAddr rfl rfl hu74 rfl (by assumption) rfl) ?_
 refine E.gr rfl (E.Runs.load1 rfl rfl hu72 rfl (by first | assumption | exact E.blkc (by assumption) rfl)) ?_
 refine E.GL.st rfl rfl rfl (E.ST.range rfl rfl hu72 hM.m fun r10 w10 n10 e10 I10 l10 => ?_)
 have hr10 : base ≤ r10 := by rw [e10]; exact Nat.le_of_lt (Nat.lt_of_le_of_lt hM.bx (blk_lt hM.x))
 replace hM := hM.below l10
 replace K := K.trans (Kp.of l10)
 refine E.gd (E.qc (E.CG.block ?_))
 have s1_bx := bx
 refine E.CG.loop2 (fun (ks : List Int) (n : Nat) => [(0, .pointer (some ⟨D.gx, 0, none⟩)), (1, .int .i64 minute), (10, .pointer (some ⟨r10, 0, none⟩))]) (fun ks n w' => MfI evI evP w' r10 D.gm D.f ks n ∧ HM base w' D (ks.foldl (lapN D.hold minute) S) ∧ Kp base w w') (fun ks n => n) [] n10 (E.subc rfl (E.subc rfl (E.subc rfl E.subn))) ⟨I10, hM, K⟩ ?_
 rintro ks n w1 ⟨I10, hM, K⟩
 refine E.cs (E.cl ?_)
 refine E.GL.st rfl rfl rfl (E.ST.next rfl rfl kT3 I10 (fun hall => ?_) (fun x v w11 n' hx hxS hn' it11 mJ l11 => ?_))
 ·refine E.gr rfl (E.Runs.extract rfl rfl rfl) ?_
  refine E.gd (E.qc (E.cs (E.CG.cond_f rfl (E.CG.exit (E.QG.pass_exit (E.QG.pass_exit (E.QG.block_here ?_)))))))
  exact E.QG.result_n0 rfl ⟨_, rfl, hM, ⟨ks, fun n o h => by obtain ⟨g, q, _⟩ := hM0.ptr h; exact hall n g q, rfl⟩, K⟩
 ·replace K := K.trans (Kp.iter I10 l11 hr10)
  replace hM := hM.iter I10 l11
  obtain ⟨o, ho, b1⟩ := hM.ord hx
  have bx := hM.x
  have hIk := hI.lapF D.hold minute ks
  have hod := hIk.ord x o ho
  have hof := hod.2.1
  refine E.gr rfl (E.Runs.extract rfl rfl rfl) ?_
  refine E.gd (E.qc (E.cs (E.CG.cond_t rfl (E.CG.skip (E.qc (E.CG.block (E.cs (E.cl (E.gr rfl (E.Runs.entry rfl rfl mJ) ?_)))))))))
  refine E.gr rfl (E.Runs.extract rfl rfl rfl) ?_
  refine E.ga rfl rfl rfl (E.gd (E.qc (E.cs (E.CG.quietF (by kernel_rfl) rfl (by kernel_rfl) (by kernel_rfl) ?_))))
  refine E.GQ.run rfl rfl rfl (E.Runs.move rfl rfl) ?_
  refine E.GQ.run rfl rfl rfl (E.Runs.nilCheck rfl rfl) ?_
  refine E.GQ.run rfl rfl rfl (E.Runs.fieldAddr rfl rfl hu76 rfl (by assumption) rfl) ?_
  refine E.GQ.run rfl rfl rfl (E.Runs.fieldAddr rfl rfl hu50 rfl (by assumption) rfl) ?_
  refine E.GQ.run rfl rfl rfl (E.Runs.load rfl rfl hu3 (by first | assumption | exact E.blkc (by assumption) rfl)) ?_
  refine E.GQ.cmp rfl rfl rfl (fun _ h => (E.Runs.eql rfl rfl rfl h)) (fun h20 => ?_) (fun h20 => ?_)
  ·refine E.GQ.run rfl rfl rfl (E.Runs.move rfl rfl) ?_
   refine E.GQ.run rfl rfl rfl (E.Runs.move rfl rfl) ?_
   refine E.GQ.run rfl rfl rfl (E.Runs.nilCheck rfl rfl) ?_
   refine E.GQ.run rfl rfl rfl (E.Runs.fieldAddr rfl rfl hu76 rfl (by assumption) rfl) ?_
   refine E.GQ.run rfl rfl rfl (E.Runs.load rfl rfl hu3 (by first | assumption | exact E.blkc (by assumption) rfl)) ?_
   refine E.GQ.run rfl rfl rfl (E.Runs.move rfl rfl) ?_
   refine E.GQ.run rfl rfl rfl (E.Runs.nilCheck rfl rfl) ?_
   refine E.GQ.run rfl rfl rfl (E.Runs.fieldAddr rfl rfl hu74 rfl (by assumption) rfl) ?_
   refine E.GQ.run rfl rfl rfl (E.Runs.fieldAddr rfl rfl hu24 rfl (by assumption) rfl) ?_
   refine E.GQ.run rfl rfl rfl (E.Runs.load rfl rfl hu3 (by first | assumption | exact E.blkc (by assumption) rfl)) ?_
   refine E.GQ.run rfl rfl rfl (E.Runs.add rfl rfl rfl (IntWalk.i64_in _ (by omega))) ?_
   refine E.GQ.run rfl rfl rfl (E.Runs.move rfl rfl) ?_
   refine E.GQ.cmp rfl rfl rfl (fun _ h => (E.Runs.leq rfl rfl rfl h)) (fun h33 => ?_) (fun h33 => ?_)
   ·have hdue : due D.hold minute o := ⟨h20, h33⟩
    refine E.GQ.run rfl rfl rfl (E.Runs.pick_t rfl rfl rfl) ?_
    refine E.GQ.doneB fun v3 lD => ?_
    replace b1 := blk_below b1 lD
    replace bx := blk_below bx lD
    have lD3 := lD
    clear lD
    replace hM := hM.below lD3
    replace K := K.trans (Kp.of lD3)
    replace it11 := it11.below lD3
    refine E.qc (E.CG.cond_t rfl ?_)
    obtain ⟨r, s, m, q1, q2, q3, q4⟩ := hod.2.2 (.inl h20)
    obtain ⟨f0, f1, f2, f3, f4⟩ := o
    simp only at h20 q1 q2 q4 hof
    obtain ⟨k, hk⟩ := Int.eq_ofNat_of_zero_le hod.1.1
    simp only at hk
    subst h20 q1 q2 hk
    obtain ⟨l, hl⟩ := get_ex (show r < (ks.foldl (lapN D.hold minute) S).rows.length by rw [hIk.len]; exact get_lt q3)
    have hlm := hIk.row r l m hl q3
    have hl12 := hIk.l12 ok.r l (mem_of hl)
    refine E.cl (E.gm rfl rfl rfl (E.gm rfl rfl rfl ?_))
    refine E.GL.st rfl rfl rfl (E.ST.call rfl ent61 (E.evc rfl (E.evc rfl (E.evc rfl E.evn))) ((leave61 base D _ _ hM (by omega) x v hx 2 f4 4 r s k ho l hl (by omega) (by omega)).mono ?_))
    rintro e w37 ⟨rfl, hM, K1, O1⟩
    refine ⟨_, rfl, ?_⟩
    replace it11 := MfI.ko it11 O1
    replace K := K.trans K1
    replace hM : HM base w37 D (lapN D.hold minute (ks.foldl (lapN D.hold minute) S) x) := by rw [lapN_due ho hdue]; exact hM
    refine E.gd (E.QG.block_normal ?_)
    exact E.QG.round2 (g := ks) (d := n) (ks ++ [x]) n' (E.subc rfl (E.subc rfl (E.subc rfl E.subn))) ⟨it11, by rw [List.foldl_append]; first | exact hM | (show HM base _ D (lapN D.hold minute (ks.foldl (lapN D.hold minute) S) x); rw [lapN_not ho hdue]; exact hM), K⟩ hn'
   ·have hdue : ¬ due D.hold minute o := fun q => h33 q.2
    refine E.GQ.run rfl rfl rfl (E.Runs.pick_t rfl rfl rfl) ?_
    refine E.GQ.doneB fun v3 lD => ?_
    replace b1 := blk_below b1 lD
    replace bx := blk_below bx lD
    have lD3 := lD
    clear lD
    replace hM := hM.below lD3
    replace K := K.trans (Kp.of lD3)
    replace it11 := it11.below lD3
    refine E.qc (E.CG.cond_f rfl (E.CG.skip (E.QG.block_normal ?_)))
    exact E.QG.round2 (g := ks) (d := n) (ks ++ [x]) n' (E.subc rfl (E.subc rfl (E.subc rfl E.subn))) ⟨it11, by rw [List.foldl_append]; first | exact hM | (show HM base _ D (lapN D.hold minute (ks.foldl (lapN D.hold minute) S) x); rw [lapN_not ho hdue]; exact hM), K⟩ hn'
  ·have hdue : ¬ due D.hold minute o := fun q => h20 q.1
   refine E.GQ.run rfl rfl rfl (E.Runs.move rfl rfl) ?_
   refine E.GQ.skip rfl rfl rfl ?_
   refine E.GQ.skip rfl rfl rfl ?_
   refine E.GQ.skip rfl rfl rfl ?_
   refine E.GQ.skip rfl rfl rfl ?_
   refine E.GQ.skip rfl rfl rfl ?_
   refine E.GQ.skip rfl rfl rfl ?_
   refine E.GQ.skip rfl rfl rfl ?_
   refine E.GQ.skip rfl rfl rfl ?_
   refine E.GQ.skip rfl rfl rfl ?_
   refine E.GQ.skip rfl rfl rfl ?_
   refine E.GQ.skip rfl rfl rfl ?_
   refine E.GQ.skip rfl rfl rfl ?_
   refine E.GQ.run rfl rfl rfl (E.Runs.pick_f rfl rfl rfl) ?_
   refine E.GQ.doneB fun v3 lD => ?_
   replace b1 := blk_below b1 lD
   replace bx := blk_below bx lD
   have lD3 := lD
   clear lD
   replace hM := hM.below lD3
   replace K := K.trans (Kp.of lD3)
   replace it11 := it11.below lD3
   refine E.qc (E.CG.cond_f rfl (E.CG.skip (E.QG.block_normal ?_)))
   exact E.QG.round2 (g := ks) (d := n) (ks ++ [x]) n' (E.subc rfl (E.subc rfl (E.subc rfl E.subn))) ⟨it11, by rw [List.foldl_append]; first | exact hM | (show HM base _ D (lapN D.hold minute (ks.foldl (lapN D.hold minute) S) x); rw [lapN_not ho hdue]; exact hM), K⟩ hn'

end Go.Proofs.Ytkjefnlhhfpllaa.T
namespace Go.Proofs.Ytkjefnlhhfpllaa.T
open Go.RowKit Go.Proofs.YtkjefnlhhfpllaaW.PrintWords Go.Proofs.YtkjefnlhhfpllaaW.PrintMore
open Go.Proofs.Ytkjefnlhhfpllaa.P
set_option linter.unusedVariables false
set_option linter.unusedSimpArgs false

open Go.Proofs.Ytkjefnlhhfpllaa.E (Mf upd)
section
variable {ns : List Int} {S : HS} {base : Nat} {w w' w1 w2 : World} {D : HD} {c : S64} {o : Od}
theorem hearS_ask (ho : (ofS S c.f3).ord c.f3 = some o) (h : c.f2 = 1) : hearS S c = askS (ofS S c.f3) c.f3 c.f4 c.f1 := by
 unfold hearS
 simp only [ho]
 rw [if_pos h]
theorem hearS_pay (ho : (ofS S c.f3).ord c.f3 = some o) (h : ¬ c.f2 = 1) (h2 : c.f2 = 2) (h3 : o.f0 = 2) : hearS S c = ⟨(ofS S c.f3).rows, upd (ofS S c.f3).ord c.f3 ⟨3, o.f1, o.f2, o.f3, o.f4⟩⟩ := by
 unfold hearS
 simp only [ho]
 rw [if_neg h, if_pos ⟨h2, h3⟩]
theorem hearS_vain (ho : (ofS S c.f3).ord c.f3 = some o) (h : ¬ c.f2 = 1) (h2 : c.f2 = 2) (h3 : ¬ o.f0 = 2) : hearS S c = ofS S c.f3 := by
 unfold hearS
 simp only [ho]
 rw [if_neg h, if_neg (fun q => h3 q.2), if_pos h2]
theorem hearS_drop (ho : (ofS S c.f3).ord c.f3 = some o) (h : ¬ c.f2 = 1) (h2 : ¬ c.f2 = 2) (h3 : o.f0 = 2 ∨ o.f0 = 3) : hearS S c = leaveS (ofS S c.f3) c.f3 o 5 := by
 unfold hearS
 simp only [ho]
 rw [if_neg h, if_neg (fun q => h2 q.1), if_neg h2, if_pos h3]
theorem hearS_none (ho : (ofS S c.f3).ord c.f3 = some o) (h : ¬ c.f2 = 1) (h2 : ¬ c.f2 = 2) (h3 : ¬ (o.f0 = 2 ∨ o.f0 = 3)) : hearS S c = ofS S c.f3 := by
 unfold hearS
 simp only [ho]
 rw [if_neg h, if_neg (fun q => h2 q.1), if_neg h2, if_neg h3]
/-- Who paid in vain. -/
theorem HM.vain (h : HM base w D S) {n : Int} {u : Value} (r : Kd.R kI 3 w1 base (fun _ => True) u (D.vl ++ [n])) (g : w.grownBy w1 D.v.ownBlock) (hu : u.ownBlock = D.v.ownBlock ∨ ∃ b, u.ownBlock = some b ∧ w.heap.size ≤ b)
  (b : w2.heap[D.gx]? = some (.cells (xC { D with v := u }).toArray 74 (0, 0))) (k : w1.grownBy w2 (some D.gx)) : HM base w2 { D with v := u, vl := D.vl ++ [n] } S := by
 have x1 : w1.heap[D.gx]? = some (.cells (xC D).toArray 74 (0, 0)) := blk_grown h.x g (Kd.R_ne h.v h.x (by decide))
 have mne : some D.gm ≠ D.v.ownBlock := fun e => by
  obtain ⟨_, inner, ho, _⟩ := h.v
  obtain ⟨cells, hc⟩ := own_typed ho D.gm e.symm
  exact Mf.ne h.m hc rfl
 have m1 := h.m.grown g mne
 refine ⟨b, h.bx, E.R_over (E.R_over' h.s h.v (by decide) g) x1 (by decide) k, h.lr, fun i p hp => ?_, h.nd, m1.grown k (E.nes (Mf.ne m1 x1)), h.bm, fun m j hj => ?_, h.on, h.inj, E.R_over r x1 (by decide) k, fun i p hp => ?_⟩
 ·obtain ⟨q, l, q1, q2, q3⟩ := h.r i p hp
  have q4 := blk_grown q3 g (h.vn i p hp)
  exact ⟨q, l, q1, q2, blk_grown q4 k (E.nes (blk_ne q4 x1 (by decide)))⟩
 ·obtain ⟨q, o', q1, q2⟩ := h.o m j hj
  have q4 := blk_grown q2 g (Kd.R_ne h.v q2 (by decide))
  exact ⟨q, o', q1, blk_grown q4 k (E.nes (blk_ne q4 x1 (by decide)))⟩
 ·rcases hu with hu | ⟨b, hu, hb⟩
  ·show some p.1 ≠ u.ownBlock
   rw [hu]
   exact h.vn i p hp
  ·intro e
   have e' : some p.1 = some b := e.trans hu
   injection e' with e'
   obtain ⟨_, l, _, _, q3⟩ := h.r i p hp
   have := blk_lt q3
   omega
end
set_option maxRecDepth 100000 in
theorem lit22_1 (a : Int) (W : World) : (Instr.buildSlice 22 1 #[(0, .int .i64 a)]).run Try.prog W = .ok (.slice (some ⟨W.heap.size, 0, none⟩) 1 1) (W.alloc (.cells #[.int .i64 a] 3)) := by
 have hu22 := Try.underlying22
 have hu3 := Try.underlying3
 go_simp
set_option maxRecDepth 100000 in
theorem lit45_1 (A : Option Addr) (n c : Nat) (W : World) : (Instr.buildSlice 45 1 #[(0, .slice A n c)]).run Try.prog W = .ok (.slice (some ⟨W.heap.size, 0, none⟩) 1 1) (W.alloc (.cells #[.slice A n c] 22)) := by
 have hu22 := Try.underlying22
 have hu45 := Try.underlying45
 go_simp
theorem info22b : (Try.prog.info? 22).map (fun i => (i.zero, i.size, i.bytes)) = some (some (.slice none 0 0), 1, 24) := by kernel_rfl
set_option maxRecDepth 100000 in
theorem build74 (A : Option Addr) (n c : Nat) (h : Int) (g : Nat) (W : World) : (Instr.build 74 #[(0, .agg #[.slice A n c, .int .i64 h]), (2, .map (some g))]).run Try.prog W = .ok (.agg #[.slice A n c, .int .i64 h, .slice none 0 0, .map (some g), .slice none 0 0]) W := by
 have hu3 := Try.underlying3
 have hu22 := Try.underlying22
 have hu24 := Try.underlying24
 have hu45 := Try.underlying45
 have hu72 := Try.underlying72
 have hu74 := Try.underlying74
 go_simp
set_option maxRecDepth 100000 in
set_option maxHeartbeats 8000000 in

theorem hear46 {base : Nat} {D : HD} {S : HS} {w : World} (hM : HM base w D S) (hbw : base ≤ w.heap.size) {ns : List Int} {hold : Int} (hI : HI ns S) (ok : HOk ns hold) (c : S64) (hc : LOk c) (hvl : D.vl.length ≤ 1000) :
  Calls Try.prog 46 #[.pointer (some ⟨D.gx, 0, none⟩), .agg #[.int .i64 c.f0, .int .i64 c.f1, .int .i64 c.f2, .int .i64 c.f3, .int .i64 c.f4]] w fun e w' => ∃ (f : Int → Option Nat) (v : Value) (vl : List Int), e = .returned (.tuple #[]) ∧ vl.length ≤ D.vl.length + 1 ∧ HM base w' { D with f := f, v := v, vl := vl } (hearS S c) ∧ Kp base w w' := by
 have hn6 := ok.n
 have hlen := hI.len
 have hlr0 := hM.lr
 have hcn := hc.n
 have hck := hc.k
 unfold inR at hcn hck
 have hu3 := Try.underlying3
 have hu22 := Try.underlying22
 have hu50 := Try.underlying50
 have hu64 := Try.underlying64
 have hu74 := Try.underlying74
 have hu76 := Try.underlying76
 have hu77 := Try.underlying77
 obtain ⟨z3, o3⟩ := info_some info3s (by decide)
 obtain ⟨z22, o22⟩ := info_some info22s (by decide)
 obtain ⟨z24, o24⟩ := info_some info24s (by decide)
 obtain ⟨z45, o45⟩ := info_some info45s (by decide)
 obtain ⟨z50, o50⟩ := info_some info50s (by decide)
 obtain ⟨z64, o64⟩ := info_some info64s (by decide)
 obtain ⟨z72, o72⟩ := info_some info72s (by decide)
 refine E.enter (N := 70) Try.func46 rfl Try.ntmps46 (args := [.pointer (some ⟨D.gx, 0, none⟩), .agg #[.int .i64 c.f0, .int .i64 c.f1, .int .i64 c.f2, .int .i64 c.f3, .int .i64 c.f4]]) (by simp) ?_
 have K := Kp.refl base w
 refine E.cs (E.cl ?_)
 refine E.GL.st rfl rfl rfl (E.ST.box rfl rfl fun g3 w3 e3 b3 l3 => ?_)
 replace hM := hM.below l3
 replace K := K.trans (Kp.of l3)
 refine E.gd (E.qc (E.cs (E.cl (E.gm rfl rfl rfl (E.gr rfl (E.Runs.fieldAddr rfl rfl hu64 rfl (by assumption) rfl) ?_)))))
 refine E.gr rfl (E.Runs.load rfl rfl hu3 (by first | assumption | exact E.blkc (by assumption) rfl)) ?_
 refine E.GL.st rfl rfl rfl (E.ST.call rfl ent21 (E.evc rfl (E.evc rfl E.evn)) ((of21 base D S _ hM c.f3).mono ?_))
 rintro e w8 ⟨g1, f, rfl, hM, hf, K1⟩
 refine ⟨_, rfl, ?_⟩
 replace K := K.trans K1
 replace b3 := K1.at_ b3 (by decide)
 obtain ⟨o, ho⟩ := ofS_get S c.f3
 have hI1 := hI.of c.f3
 obtain ⟨o', ho', b1⟩ := hM.ord hf
 rw [ho] at ho'
 cases ho'
 have hod := hI1.ord c.f3 o ho
 refine E.ga rfl rfl rfl (E.gd (E.qc (E.CG.block (E.cs (E.cl (E.gr rfl (E.Runs.fieldAddr rfl rfl hu64 rfl (by assumption) rfl) ?_))))))
 refine E.gr rfl (E.Runs.load rfl rfl hu3 (by first | assumption | exact E.blkc (by assumption) rfl)) ?_
 refine E.GL.cmp rfl rfl rfl (fun _ h => (E.Runs.eql rfl rfl rfl h)) (fun h12 => ?_) (fun h12 => ?_)
 ·have h12' := h12
  clear h12
  obtain ⟨k, hk⟩ : ∃ k : Nat, c.f4 = (k : Int) := ⟨c.f4.toNat, by omega⟩
  have h1 : 1 ≤ k := by omega
  have h12 : k ≤ 12 := by omega
  refine E.ga rfl rfl rfl (E.gd (E.qc (E.CG.cond_t rfl ?_)))
  have e4 : w8.heap[g3]? = some (.cells #[.int .i64 c.f0, .int .i64 c.f1, .int .i64 c.f2, .int .i64 c.f3, .int .i64 (k : Int)] 64 (0, 0)) := by rw [← hk]; exact b3
  replace b3 := e4
  refine E.cl (E.gm rfl rfl rfl (E.gr rfl (E.Runs.fieldAddr rfl rfl hu64 rfl (by assumption) rfl) ?_))
  refine E.gr rfl (E.Runs.load rfl rfl hu3 (by first | assumption | exact E.blkc (by assumption) rfl)) ?_
  refine E.gr rfl (E.Runs.fieldAddr rfl rfl hu64 rfl (by assumption) rfl) ?_
  refine E.gr rfl (E.Runs.load rfl rfl hu3 (by first | assumption | exact E.blkc (by assumption) rfl)) ?_
  refine E.gr rfl (E.Runs.fieldAddr rfl rfl hu64 rfl (by assumption) rfl) ?_
  refine E.gr rfl (E.Runs.load rfl rfl hu3 (by first | assumption | exact E.blkc (by assumption) rfl)) ?_
  refine E.GL.st rfl rfl rfl (E.ST.call rfl ent62 (E.evc rfl (E.evc rfl (E.evc rfl (E.evc rfl E.evn)))) ((ask62 hM hI1 ok c.f3 c.f1 k h1 h12).mono ?_))
  rintro e w20 ⟨f2, rfl, hM, K2⟩
  refine ⟨_, rfl, ?_⟩
  replace K := K.trans K2
  refine E.gd (E.QG.block_normal ?_)
  exact E.QG.result_n0 rfl ⟨f2, D.v, D.vl, rfl, by omega, by rw [hearS_ask ho h12', hk]; exact hM, K⟩
 ·have hck2 : c.f2 = 2 ∨ c.f2 = 3 := by omega
  refine E.ga rfl rfl rfl (E.gd (E.qc (E.CG.cond_f rfl (E.cs (E.cl (E.gr rfl (E.Runs.fieldAddr rfl rfl hu64 rfl (by assumption) rfl) ?_))))))
  refine E.gr rfl (E.Runs.load rfl rfl hu3 (by first | assumption | exact E.blkc (by assumption) rfl)) ?_
  refine E.GL.cmp rfl rfl rfl (fun _ h => (E.Runs.eql rfl rfl rfl h)) (fun h24 => ?_) (fun h24 => ?_)
  ·refine E.gm rfl rfl rfl (E.gm rfl rfl rfl (E.gr rfl (E.Runs.nilCheck rfl rfl) ?_))
   refine E.gr rfl (E.Runs.fieldAddr rfl rfl hu76 rfl (by assumption) rfl) ?_
   refine E.gr rfl (E.Runs.fieldAddr rfl rfl hu50 rfl (by assumption) rfl) ?_
   refine E.gr rfl (E.Runs.load rfl rfl hu3 (by first | assumption | exact E.blkc (by assumption) rfl)) ?_
   refine E.GL.cmp rfl rfl rfl (fun _ h => (E.Runs.eql rfl rfl rfl h)) (fun h31 => ?_) (fun h31 => ?_)
   ·refine E.gt rfl rfl rfl rfl (E.ga rfl rfl rfl (E.gd (E.qc (E.CG.cond_t rfl (E.cl (E.gm rfl rfl rfl (E.gr rfl (E.Runs.nilCheck rfl rfl) ?_)))))))
    refine E.gr rfl (E.Runs.fieldAddr rfl rfl hu76 rfl (by assumption) rfl) ?_
    refine E.gr rfl (E.Runs.fieldAddr rfl rfl hu50 rfl (by assumption) rfl) ?_
    refine E.GL.sn rfl rfl (E.ST.store rfl z3 o3 rfl rfl b1 rfl (show _ = #[.int .i64 3, .int .i64 o.f1, .int .i64 o.f2, .int .i64 o.f3, .int .i64 o.f4] from rfl) fun wA cA lA => ?_)
    replace K := K.trans (Kp.own lA b1 (hM.o c.f3 g1 hf).1 (by simp))
    replace hM := hM.setO (o := ⟨3, o.f1, o.f2, o.f3, o.f4⟩) hf cA lA
    refine E.gd (E.QG.block_normal ?_)
    exact E.QG.result_n0 rfl ⟨f, D.v, D.vl, rfl, by omega, by rw [hearS_pay ho h12 h24 h31]; exact hM, K⟩
   ·refine E.gt rfl rfl rfl rfl (E.ga rfl rfl rfl (E.gd (E.qc (E.CG.cond_f rfl (E.cs (E.cl (E.gr rfl (E.Runs.fieldAddr rfl rfl hu64 rfl (by assumption) rfl) ?_)))))))
    refine E.gr rfl (E.Runs.load rfl rfl hu3 (by first | assumption | exact E.blkc (by assumption) rfl)) ?_
    refine E.gr rfl (E.Runs.eql rfl rfl rfl (decide_eq_true h24)) ?_
    refine E.ga rfl rfl rfl (E.gd (E.qc (E.CG.cond_t rfl ?_)))
    have bx := hM.x
    refine E.CG.heldJ 11 (fun v W => v.grownBy W (D.v.ownBlock)) (fun _ _ => True) (by kernel_rfl) (by kernel_rfl) (fun v => World.grownBy.refl _ _) fun v7 lD => ?_
    replace b1 := blk_below b1 lD
    replace b3 := blk_below b3 lD
    replace bx := blk_below bx lD
    have lD7 := lD
    clear lD
    replace hM := hM.below lD7
    replace K := K.trans (Kp.of lD7)
    have hL := K.below hbw
    have s_b1 := b1
    have s_b3 := b3
    have s_bx := bx
    have hh : v7.grownBy v7 (D.v.ownBlock) := World.grownBy.refl _ _
    refine E.GJ.take1 (i := 0) rfl (by kernel_rfl) (by kernel_rfl) (by kernel_rfl) (by kernel_rfl) rfl (by kernel_rfl) (by kernel_rfl) (by intro c a d v w h; first | (cases d <;> exact h) | exact nomatch (show _ ∧ _ from h).1) rfl rfl rfl (fun w' hS => (E.Runs.move rfl rfl)) ?_
    refine E.GJ.take1 (i := 1) rfl (by kernel_rfl) (by kernel_rfl) (by kernel_rfl) (by kernel_rfl) rfl (by kernel_rfl) (by kernel_rfl) (by intro c a d v w h; first | (cases d <;> exact h) | exact nomatch (show _ ∧ _ from h).1) rfl rfl rfl (fun w' hS => (E.Runs.move rfl rfl)) ?_
    refine E.GJ.take1 (i := 2) rfl (by kernel_rfl) (by kernel_rfl) (by kernel_rfl) (by kernel_rfl) rfl (by kernel_rfl) (by kernel_rfl) (by intro c a d v w h; first | (cases d <;> exact h) | exact nomatch (show _ ∧ _ from h).1) rfl rfl rfl (fun w' hS => (E.Runs.nilCheck rfl rfl)) ?_
    refine E.GJ.take1 (i := 3) rfl (by kernel_rfl) (by kernel_rfl) (by kernel_rfl) (by kernel_rfl) rfl (by kernel_rfl) (by kernel_rfl) (by intro c a d v w h; first | (cases d <;> exact h) | exact nomatch (show _ ∧ _ from h).1) rfl rfl rfl (fun w' hS => (E.Runs.fieldAddr rfl rfl hu74 rfl (by assumption) rfl)) ?_
    refine E.GJ.take1 (i := 4) rfl (by kernel_rfl) (by kernel_rfl) (by kernel_rfl) (by kernel_rfl) rfl (by kernel_rfl) (by kernel_rfl) (by intro c a d v w h; first | (cases d <;> exact h) | exact nomatch (show _ ∧ _ from h).1) rfl rfl rfl (fun w' hS => (E.Runs.load1 rfl rfl hu22 rfl (by first | exact E.keeps hS (E.blkc (by assumption) rfl) (by first | exact E.nen | exact Kd.R_ne hM.v (by assumption) (by decide))))) ?_
    refine E.GJ.take1 (i := 5) rfl (by kernel_rfl) (by kernel_rfl) (by kernel_rfl) (by kernel_rfl) rfl (by kernel_rfl) (by kernel_rfl) (by intro c a d v w h; first | (cases d <;> exact h) | exact nomatch (show _ ∧ _ from h).1) rfl rfl rfl (fun w' hS => (E.Runs.fieldAddr rfl rfl hu64 rfl (by assumption) rfl)) ?_
    refine E.GJ.take1 (i := 6) rfl (by kernel_rfl) (by kernel_rfl) (by kernel_rfl) (by kernel_rfl) rfl (by kernel_rfl) (by kernel_rfl) (by intro c a d v w h; first | (cases d <;> exact h) | exact nomatch (show _ ∧ _ from h).1) rfl rfl rfl (fun w' hS => (E.Runs.load rfl rfl hu3 (by first | exact E.keeps hS (E.blkc (by assumption) rfl) (by first | exact E.nen | exact Kd.R_ne hM.v (by assumption) (by decide))))) ?_
    refine E.GJ.one (i := 7) (by kernel_rfl) (E.OJ.st rfl rfl rfl rfl (E.ST.lit rfl (E.epc rfl E.epn) (lit22_1 c.f3) ⟨(E.SJ.before (by kernel_rfl)).mpr (World.grownBy_alloc _ _ _), ?_⟩))
    refine E.GJ.one (i := 8) (by kernel_rfl) (E.OJ.st rfl rfl rfl rfl (E.ST.appendW kI base (w0 := w) (s := .tmp 45) (x := .tmp 48) rfl hu22 info3 rfl (by decide) (by decide) c.f3 rfl rfl rfl (fun _ _ => trivial) hM.v hL (Nat.le_trans hbw hL.size) (by show (D.vl.length + 1) * _ ≤ _; omega) fun u49 w49 r49 k49 g49 o49 => ⟨(E.SJ.before (by kernel_rfl)).mpr g49, ?_⟩))
    have bx49 := blk_grown bx g49 (Kd.R_ne hM.v bx (by decide))
    obtain ⟨A49, c49, hu49⟩ := Kd.R_slice r49
    subst hu49
    refine E.GJ.take1t (i := 9) 10 rfl (by kernel_rfl) (by kernel_rfl) (by kernel_rfl) (by kernel_rfl) rfl (by kernel_rfl) rfl (by kernel_rfl) (by kernel_rfl) (by kernel_rfl) (by kernel_rfl) (by kernel_rfl) (by intro c a d v w h; first | (cases d <;> exact h) | exact nomatch (show _ ∧ _ from h).1) rfl rfl rfl (fun w' hS => (E.Runs.nilCheck rfl rfl)) ?_
    refine E.GJ.take1 (i := 10) rfl (by kernel_rfl) (by kernel_rfl) (by kernel_rfl) (by kernel_rfl) rfl (by kernel_rfl) (by kernel_rfl) (by intro c a d v w h; first | (cases d <;> exact h) | exact nomatch (show _ ∧ _ from h).1) rfl rfl rfl (fun w' hS => (E.Runs.fieldAddr rfl rfl hu74 rfl (by assumption) rfl)) ?_
    refine E.GJ.one (i := 11) (by kernel_rfl) (E.OJ.sn rfl rfl rfl (E.ST.storeSl (cs := xC D) (cs' := xC { D with v := .slice A49 (D.vl ++ [c.f3]).length c49 }) rfl z22 o22 rfl rfl bx49 rfl rfl fun wX cX lX => ⟨(E.SJ.behind (by kernel_rfl)).mpr trivial, ?_⟩))
    replace K := (K.trans (Kp.row g49 hM.v (by simp))).trans (Kp.own lX bx49 hM.bx (by simp))
    replace hM := hM.vain r49 g49 o49 cX lX
    refine E.GJ.done (by kernel_rfl) ?_
    refine E.QG.block_normal ?_
    exact E.QG.result_n0 rfl ⟨f, .slice A49 (D.vl ++ [c.f3]).length c49, D.vl ++ [c.f3], rfl, by simp, by rw [hearS_vain ho h12 h24 h31]; exact hM, K⟩
  ·refine E.gm rfl rfl rfl (E.gk rfl (E.gk rfl (E.gk rfl (E.gk rfl (E.gk rfl (E.gk rfl (E.gr rfl (E.Runs.pick_f rfl rfl rfl) ?_)))))))
   refine E.ga rfl rfl rfl (E.gd (E.qc (E.CG.cond_f rfl (E.cs (E.cl (E.gr rfl (E.Runs.fieldAddr rfl rfl hu64 rfl (by assumption) rfl) ?_))))))
   refine E.gr rfl (E.Runs.load rfl rfl hu3 (by first | assumption | exact E.blkc (by assumption) rfl)) ?_
   refine E.gr rfl (E.Runs.eql rfl rfl rfl (decide_eq_false h24)) ?_
   refine E.ga rfl rfl rfl (E.gd (E.qc (E.CG.cond_f rfl (E.cs (E.cl (E.gm rfl rfl rfl (E.gr rfl (E.Runs.nilCheck rfl rfl) ?_)))))))
   refine E.gr rfl (E.Runs.fieldAddr rfl rfl hu76 rfl (by assumption) rfl) ?_
   refine E.gr rfl (E.Runs.fieldAddr rfl rfl hu50 rfl (by assumption) rfl) ?_
   refine E.gr rfl (E.Runs.load rfl rfl hu3 (by first | assumption | exact E.blkc (by assumption) rfl)) ?_
   refine E.GL.cmp rfl rfl rfl (fun _ h => (E.Runs.eql rfl rfl rfl h)) (fun h58 => ?_) (fun h58 => ?_)
   ·have h99 : o.f0 = 2 ∨ o.f0 = 3 := .inl h58
    refine E.gm rfl rfl rfl (E.gk rfl (E.gk rfl (E.gk rfl (E.gk rfl (E.gk rfl (E.gk rfl (E.gt rfl rfl rfl rfl (E.ga rfl rfl rfl (E.gd ?_)))))))))
    refine E.qc (E.CG.cond_t rfl ?_)
    obtain ⟨r, s, m, q1, q2, q3, q4⟩ := hod.2.2 h99
    obtain ⟨z, f1, f2, f3, f4⟩ := o
    simp only at q1 q2 q4
    obtain ⟨k, hk⟩ := Int.eq_ofNat_of_zero_le hod.1.1
    simp only at hk
    subst q1 q2 hk
    obtain ⟨l, hl⟩ := get_ex (show r < (ofS S c.f3).rows.length by rw [hI1.len]; exact get_lt q3)
    have hlm := hI1.row r l m hl q3
    have hl12 := hI1.l12 ok.r l (mem_of hl)
    refine E.cl (E.gm rfl rfl rfl (E.gm rfl rfl rfl ?_))
    refine E.GL.st rfl rfl rfl (E.ST.call rfl ent61 (E.evc rfl (E.evc rfl (E.evc rfl E.evn))) ((leave61 base _ _ _ hM (by show D.hs.length ≤ 1000000; omega) c.f3 g1 hf z f4 5 r s k ho l hl (by omega) (by omega)).mono ?_))
    rintro e w69 ⟨rfl, hM, K2, O1⟩
    refine ⟨_, rfl, ?_⟩
    replace K := K.trans K2
    refine E.gd (E.QG.block_normal ?_)
    exact E.QG.result_n0 rfl ⟨f, D.v, D.vl, rfl, by omega, by rw [hearS_drop ho h12 h24 h99]; exact hM, K⟩
   ·refine E.gm rfl rfl rfl (E.gm rfl rfl rfl (E.gr rfl (E.Runs.nilCheck rfl rfl) ?_))
    refine E.gr rfl (E.Runs.fieldAddr rfl rfl hu76 rfl (by assumption) rfl) ?_
    refine E.gr rfl (E.Runs.fieldAddr rfl rfl hu50 rfl (by assumption) rfl) ?_
    refine E.gr rfl (E.Runs.load rfl rfl hu3 (by first | assumption | exact E.blkc (by assumption) rfl)) ?_
    refine E.GL.cmp rfl rfl rfl (fun _ h => (E.Runs.eql rfl rfl rfl h)) (fun h65 => ?_) (fun h65 => ?_)
    ·have h99 : o.f0 = 2 ∨ o.f0 = 3 := .inr h65
     refine E.gr rfl (E.Runs.pick_f rfl rfl rfl) ?_
     refine E.ga rfl rfl rfl (E.gd (E.qc (E.CG.cond_t rfl ?_)))
     obtain ⟨r, s, m, q1, q2, q3, q4⟩ := hod.2.2 h99
     obtain ⟨z, f1, f2, f3, f4⟩ := o
     simp only at q1 q2 q4
     obtain ⟨k, hk⟩ := Int.eq_ofNat_of_zero_le hod.1.1
     simp only at hk
     subst q1 q2 hk
     obtain ⟨l, hl⟩ := get_ex (show r < (ofS S c.f3).rows.length by rw [hI1.len]; exact get_lt q3)
     have hlm := hI1.row r l m hl q3
     have hl12 := hI1.l12 ok.r l (mem_of hl)
     refine E.cl (E.gm rfl rfl rfl (E.gm rfl rfl rfl ?_))
     refine E.GL.st rfl rfl rfl (E.ST.call rfl ent61 (E.evc rfl (E.evc rfl (E.evc rfl E.evn))) ((leave61 base _ _ _ hM (by show D.hs.length ≤ 1000000; omega) c.f3 g1 hf z f4 5 r s k ho l hl (by omega) (by omega)).mono ?_))
     rintro e w69 ⟨rfl, hM, K2, O1⟩
     refine ⟨_, rfl, ?_⟩
     replace K := K.trans K2
     refine E.gd (E.QG.block_normal ?_)
     exact E.QG.result_n0 rfl ⟨f, D.v, D.vl, rfl, by omega, by rw [hearS_drop ho h12 h24 h99]; exact hM, K⟩
    ·refine E.gr rfl (E.Runs.pick_f rfl rfl rfl) ?_
     refine E.ga rfl rfl rfl (E.gd (E.qc (E.CG.cond_f rfl (E.CG.skip (E.QG.block_normal ?_)))))
     exact E.QG.result_n0 rfl ⟨f, D.v, D.vl, rfl, by omega, by rw [hearS_none ho h12 h24 (by omega)]; exact hM, K⟩

end Go.Proofs.Ytkjefnlhhfpllaa.T
namespace Go.Proofs.Ytkjefnlhhfpllaa.T
open Go.RowKit Go.Proofs.YtkjefnlhhfpllaaW.PrintWords Go.Proofs.YtkjefnlhhfpllaaW.PrintMore
open Go.Proofs.Ytkjefnlhhfpllaa.P
set_option linter.unusedVariables false
set_option linter.unusedSimpArgs false

open Go.Proofs.Ytkjefnlhhfpllaa.E (Mf upd)
/-- A house that is being opened: so many rows are there. -/
structure OI (base : Nat) (w : World) (A : Option Addr) (n c : Nat) (hold : Int) (g9 g7 : Nat) (ns : List Int) (v : Value) (hs : List (Nat × Nat)) : Prop where
 x : w.heap[g9]? = some (.cells ([.slice A n c, .int .i64 hold, v, .map (some g7), .slice none 0 0] : List Value).toArray 74 (0, 0))
 m : Mf evI evP w g7 (fun _ => none)
 s : Kd.R kHd 22 w base (fun _ => True) v hs
 r : ∀ (j : Nat) p, hs[j]? = some p → base ≤ p.1 ∧ ∃ x, ns[j]? = some x ∧ p.2 = x.toNat ∧ w.heap[p.1]? = some (.cells (rwC (List.replicate x.toNat (-1))).toArray 3 (0, 0))
 nd : ∀ (i j : Nat) p q, hs[i]? = some p → hs[j]? = some q → p.1 = q.1 → i = j
section
variable {base : Nat} {w w1 w2 : World} {A : Option Addr} {n c : Nat} {hold : Int} {g9 g7 : Nat} {ns : List Int} {v u : Value} {hs : List (Nat × Nat)}
theorem OI.below (h : OI base w A n c hold g9 g7 ns v hs) (l : Below w.heap.size w w1) : OI base w1 A n c hold g9 g7 ns v hs := ⟨blk_below h.x l, h.m.below l, Kd.R_below h.s l, fun j p hp => by
  obtain ⟨q, x, q1, q2, q3⟩ := h.r j p hp
  exact ⟨q, x, q1, q2, blk_below q3 l⟩, h.nd⟩
theorem OI.push (h : OI base w A n c hold g9 g7 ns v hs) {gr k : Nat} (hx : ns[hs.length]? = some (k : Int)) (hg : base ≤ gr) (hnew : ∀ (j : Nat) p, hs[j]? = some p → p.1 ≠ gr) (hb : w.heap[gr]? = some (.cells (rwC (List.replicate k (-1))).toArray 3 (0, 0)))
  (r : Kd.R kHd 22 w1 base (fun _ => True) u (hs ++ [(gr, k)])) (g : w.grownBy w1 v.ownBlock) (b : w2.heap[g9]? = some (.cells ([.slice A n c, .int .i64 hold, u, .map (some g7), .slice none 0 0] : List Value).toArray 74 (0, 0))) (k2 : w1.grownBy w2 (some g9)) : OI base w2 A n c hold g9 g7 ns u (hs ++ [(gr, k)]) := by
 have x1 := blk_grown h.x g (Kd.R_ne h.s h.x (by decide))
 have mne : some g7 ≠ v.ownBlock := fun e => by
  obtain ⟨_, inner, ho, _⟩ := h.s
  obtain ⟨cells, hc⟩ := own_typed ho g7 e.symm
  exact Mf.ne h.m hc rfl
 have m1 := h.m.grown g mne
 have st : ∀ {j : Nat} {cs : Array Value}, w.heap[j]? = some (.cells cs 3 (0, 0)) → w2.heap[j]? = some (.cells cs 3 (0, 0)) := fun hj => by
  have q := blk_grown hj g (Kd.R_ne h.s hj (by decide))
  exact blk_grown q k2 (E.nes (blk_ne q x1 (by decide)))
 refine ⟨b, m1.grown k2 (E.nes (Mf.ne m1 x1)), E.R_over r x1 (by decide) k2, fun j p hp => ?_, fun i j p q hp hq e => ?_⟩
 ·rcases Nat.lt_or_ge j hs.length with hj | hj
  ·rw [List.getElem?_append_left hj] at hp
   obtain ⟨z, x, q1, q2, q3⟩ := h.r j p hp
   exact ⟨z, x, q1, q2, st q3⟩
  ·have hj2 : j = hs.length := by have := get_lt hp; rw [List.length_append, List.length_singleton] at this; omega
   subst hj2
   simp at hp
   subst hp
   exact ⟨hg, (k : Int), hx, by simp, by rw [Int.toNat_natCast]; exact st hb⟩
 ·have hi := get_lt hp
  have hj := get_lt hq
  rw [List.length_append, List.length_singleton] at hi hj
  rcases Nat.lt_or_ge i hs.length with hi2 | hi2 <;> rcases Nat.lt_or_ge j hs.length with hj2 | hj2
  ·rw [List.getElem?_append_left hi2] at hp
   rw [List.getElem?_append_left hj2] at hq
   exact h.nd i j p q hp hq e
  ·rw [List.getElem?_append_left hi2] at hp
   obtain rfl : j = hs.length := by omega
   simp at hq
   subst hq
   exact absurd e (hnew i p hp)
  ·rw [List.getElem?_append_left hj2] at hq
   obtain rfl : i = hs.length := by omega
   simp at hp
   subst hp
   exact absurd e.symm (hnew j q hq)
  ·omega
theorem OI.done (h : OI base w A n c hold g9 g7 ns v hs) (hl : hs.length = ns.length) (h0 : 0 < ns.length) (hn : AllR ns 1 12) (b7 : base ≤ g7) (b9 : base ≤ g9) : ∃ D : HD, D.gx = g9 ∧ D.hold = hold ∧ D.vl = [] ∧ HM base w D (openS ns) := by
 obtain ⟨gs, sc, rfl, hgs, _, _⟩ := Kd.R_form h.s (by omega)
 refine ⟨⟨g9, A, n, c, hold, gs, sc, hs, g7, fun _ => none, .slice none 0 0, []⟩, rfl, rfl, rfl, ⟨h.x, b9, h.s, by simp [openS, hl], fun i p hp => ?_, h.nd, h.m, b7, (fun n g hg => by cases hg), (fun _ _ => rfl), (fun a b g ha => by cases ha), Kd.R_nil _ _ _ _ _, (fun i p hp => by simp [Value.ownBlock])⟩⟩
 obtain ⟨z, x, q1, q2, q3⟩ := h.r i p hp
 exact ⟨z, _, by simp [openS, q1], by rw [List.length_replicate]; exact q2.symm, q3⟩
end
set_option maxRecDepth 100000 in
set_option maxHeartbeats 8000000 in

theorem open39 (ns : List Int) (hold : Int) (A : Option Addr) (c : Nat) (w : World) (hr : Kd.C kI w A ns.length ns) (ok : HOk ns hold) :
  Calls Try.prog 39 #[.agg #[.slice A ns.length c, .int .i64 hold]] w fun e w' => ∃ D : HD, e = .returned (.pointer (some ⟨D.gx, 0, none⟩)) ∧ HM w.heap.size w' D (openS ns) ∧ D.hold = hold ∧ D.vl = [] ∧ Below w.heap.size w w' := by
 have hn6 := ok.n
 have hu3 := Try.underlying3
 have hu22 := Try.underlying22
 have hu24 := Try.underlying24
 have hu45 := Try.underlying45
 have hu72 := Try.underlying72
 have hu74 := Try.underlying74
 have hu76 := Try.underlying76
 have hu77 := Try.underlying77
 obtain ⟨z3, o3⟩ := info_some info3s (by decide)
 obtain ⟨z22, o22⟩ := info_some info22s (by decide)
 obtain ⟨z24, o24⟩ := info_some info24s (by decide)
 obtain ⟨z45, o45⟩ := info_some info45s (by decide)
 obtain ⟨z72, o72⟩ := info_some info72s (by decide)
 refine E.enter (N := 31) Try.func39 rfl Try.ntmps39 (args := [.agg #[.slice A ns.length c, .int .i64 hold]]) (by simp) ?_
 have L := Below.refl w.heap.size w
 refine E.cs (E.cl ?_)
 refine E.GL.st rfl rfl rfl (E.ST.box rfl rfl fun g1 w1 e1 b1 l1 => ?_)
 have h1_L : w.heap.size ≤ g1 := by rw [e1]; exact L.size
 replace L := below_step L l1
 refine E.ga rfl rfl rfl (E.gd (E.qc (E.cs (E.cl (E.gr rfl (E.Runs.loads (cs := [.slice A ns.length c, .int .i64 hold]) rfl rfl hu24 rfl info24s (blk_cells b1)) ?_)))))
 refine E.GL.st rfl rfl rfl (E.ST.makeMap evI evP rfl fun g7 w7 e7 M7 l7 => ?_)
 have h7 : w.heap.size ≤ g7 := by rw [e7]; exact L.size
 replace L := below_step L l7
 replace b1 := blk_below b1 l7
 refine E.gr rfl (E.Runs.build rfl (E.epc rfl (E.epc rfl E.epn)) (build74 _ _ _ _ _)) ?_
 refine E.GL.st rfl rfl rfl (E.ST.box rfl rfl fun g9 w9 e9 b9 l9 => ?_)
 have h9_L : w.heap.size ≤ g9 := by rw [e9]; exact L.size
 have n9_b1 : g1 ≠ g9 := by have := blk_lt b1; omega
 replace b1 := blk_below b1 l9
 replace L := below_step L l9
 replace M7 := M7.below l9
 have h9 := h9_L
 refine E.ga rfl rfl rfl (E.gd (E.qc (E.cs (E.cs (E.cl (E.gr rfl (E.Runs.fieldAddr rfl rfl hu24 rfl (by assumption) rfl) ?_))))))
 refine E.gr rfl (E.Runs.load1 rfl rfl hu22 rfl (by first | assumption | exact E.blkc (by assumption) rfl | exact pw_cell_below L (by assumption))) ?_
 refine E.gr rfl (E.Runs.len rfl rfl hu22) ?_
 refine E.gm rfl rfl rfl (E.gd (E.qc (E.CG.block ?_)))
 have s3_b1 := b1
 have s3_b9 := b9
 have s3_L := L
 refine E.CG.loop2 (fun (i : Nat) (vh : Value × List (Nat × Nat)) => [(3, .pointer (some ⟨g9, 0, none⟩)), (11, .slice A ns.length c), (12, .int .i64 (ns.length : Int)), (13, .int .i64 i)]) (fun i vh w' => i ≤ ns.length ∧ vh.2.length = i ∧ OI w.heap.size w' A ns.length c hold g9 g7 ns vh.1 vh.2 ∧ Below w.heap.size w w') (fun i vh => ns.length - i) 0 (.slice none 0 0, []) (E.subc rfl (E.subc rfl (E.subc rfl (E.subc rfl E.subn)))) ⟨Nat.zero_le _, rfl, ⟨b9, M7, Kd.R_nil _ _ _ _ _, (fun j p hp => by simp at hp), (fun i j p q hp => by simp at hp)⟩, L⟩ ?_
 rintro i vh w3 ⟨hi, hlen, hO, L⟩
 have bO := hO.x
 refine E.cs (E.cl ?_)
 refine E.GL.cmp rfl rfl rfl (fun _ h => (E.Runs.lss rfl rfl rfl h)) (fun h14 => ?_) (fun h14 => ?_)
 ·obtain ⟨x0, hx0⟩ := get_ex (show i < ns.length by omega)
  obtain ⟨ad, eA, X⟩ := int_at hr hx0
  have hxr := ok.r x0 (mem_of hx0)
  obtain ⟨k, hk⟩ := Int.eq_ofNat_of_zero_le (show 0 ≤ x0 by omega)
  subst hk
  have hx := hx0
  have hk1 : 1 ≤ k := by omega
  have hk12 : k ≤ 12 := by omega
  refine E.gd (E.qc (E.cs (E.CG.cond_t rfl (E.CG.skip (E.qc (E.cs (E.CG.block (E.cs (E.cl ?_)))))))))
  refine E.gr rfl (E.Runs.indexAddrA (i := i) rfl rfl rfl hu22 z3 o3 (by omega) eA rfl) ?_
  refine E.gr rfl (E.Runs.load rfl rfl hu3 (pw_cell_below L X)) ?_
  refine E.ga rfl rfl rfl (E.gd (E.qc (E.CG.heldJ 12 (fun v W => v.grownBy W (vh.1.ownBlock)) (fun _ _ => True) (by kernel_rfl) (by kernel_rfl) (fun v => World.grownBy.refl _ _) fun v5 lD => ?_)))
  replace bO := blk_below bO lD
  replace L := below_step L lD
  have lD5 := lD
  clear lD
  replace hO := hO.below lD5
  have bO := hO.x
  have s_bO := bO
  have s_L := L
  have hh : v5.grownBy v5 (vh.1.ownBlock) := World.grownBy.refl _ _
  refine E.GJ.take1 (i := 0) rfl (by kernel_rfl) (by kernel_rfl) (by kernel_rfl) (by kernel_rfl) rfl (by kernel_rfl) (by kernel_rfl) (by intro c a d v w h; first | (cases d <;> exact h) | exact nomatch (show _ ∧ _ from h).1) rfl rfl rfl (fun w' hS => (E.Runs.move rfl rfl)) ?_
  refine E.GJ.take1 (i := 1) rfl (by kernel_rfl) (by kernel_rfl) (by kernel_rfl) (by kernel_rfl) rfl (by kernel_rfl) (by kernel_rfl) (by intro c a d v w h; first | (cases d <;> exact h) | exact nomatch (show _ ∧ _ from h).1) rfl rfl rfl (fun w' hS => (E.Runs.move rfl rfl)) ?_
  refine E.GJ.take1 (i := 2) rfl (by kernel_rfl) (by kernel_rfl) (by kernel_rfl) (by kernel_rfl) rfl (by kernel_rfl) (by kernel_rfl) (by intro c a d v w h; first | (cases d <;> exact h) | exact nomatch (show _ ∧ _ from h).1) rfl rfl rfl (fun w' hS => (E.Runs.nilCheck rfl rfl)) ?_
  refine E.GJ.take1 (i := 3) rfl (by kernel_rfl) (by kernel_rfl) (by kernel_rfl) (by kernel_rfl) rfl (by kernel_rfl) (by kernel_rfl) (by intro c a d v w h; first | (cases d <;> exact h) | exact nomatch (show _ ∧ _ from h).1) rfl rfl rfl (fun w' hS => (E.Runs.fieldAddr rfl rfl hu74 rfl (by assumption) rfl)) ?_
  refine E.GJ.take1 (i := 4) rfl (by kernel_rfl) (by kernel_rfl) (by kernel_rfl) (by kernel_rfl) rfl (by kernel_rfl) (by kernel_rfl) (by intro c a d v w h; first | (cases d <;> exact h) | exact nomatch (show _ ∧ _ from h).1) rfl rfl rfl (fun w' hS => (E.Runs.load1 rfl rfl hu45 rfl (by first | exact E.keeps hS (E.blkc (by assumption) rfl) (by first | exact E.nen | exact Kd.R_ne hO.s (by assumption) (by decide)) | exact pw_cell_below (below_step s_L (E.belowG hS)) (by assumption)))) ?_
  refine E.GJ.take1 (i := 6) rfl (by kernel_rfl) (by kernel_rfl) (by kernel_rfl) (by kernel_rfl) rfl (by kernel_rfl) (by kernel_rfl) (by intro c a d v w h; first | (cases d <;> exact h) | exact nomatch (show _ ∧ _ from h).1) rfl rfl rfl (fun w' hS => (E.Runs.move rfl rfl)) ?_
  refine E.GJ.one (i := 5) (by kernel_rfl) (E.OJ.st rfl rfl rfl rfl (E.ST.lit rfl (E.epc rfl E.epn) (lit22_1 (-1)) ⟨(E.SJ.before (by kernel_rfl)).mpr (World.grownBy_alloc _ _ _), ?_⟩))
  obtain ⟨wA, hwA⟩ : ∃ W, World.alloc v5 (.cells #[.int .i64 (-1)] 3) = W := ⟨_, rfl⟩
  have bA : wA.heap[v5.heap.size]? = some (.cells #[.int .i64 (-1)] 3 (0, 0)) := by rw [← hwA]; exact blk_new _ _
  have lA : Below v5.heap.size v5 wA := by rw [← hwA]; exact below_alloc (Below.refl _ _) _
  rw [hwA]
  refine E.GJ.one (i := 7) (by kernel_rfl) (E.OJ.st rfl rfl rfl rfl (E.ST.call rfl ent57 (E.evc rfl (E.evc rfl E.evn)) ((repeat_calls v5.heap.size k wA hk1 hk12 bA).mono ?_)))
  rintro e w24 ⟨gr, rfl, bR, hgr, l24⟩
  refine ⟨_, rfl, (E.SJ.before (by kernel_rfl)).mpr ((E.gbB lA).trans (E.gbB l24)), ?_⟩
  have lA24 := below_step lA l24
  have hnew : ∀ (j : Nat) p, vh.2[j]? = some p → p.1 ≠ gr := fun j p hp => by
   obtain ⟨_, x, _, _, q3⟩ := hO.r j p hp
   have := blk_lt q3
   have := lA.size
   omega
  replace hO := hO.below lA24
  have hgb : w.heap.size ≤ gr := by have := lA.size; have := L.size; omega
  replace L := below_step L lA24
  refine E.GJ.one (i := 8) (by kernel_rfl) (E.OJ.st rfl rfl rfl rfl (E.ST.lit rfl (E.epc rfl E.epn) (lit45_1 _ _ _) ⟨(E.SJ.before (by kernel_rfl)).mpr (((E.gbB lA).trans (E.gbB l24)).trans (World.grownBy_alloc _ _ _)), ?_⟩))
  refine E.GJ.one (i := 9) (by kernel_rfl) (E.OJ.st rfl rfl rfl rfl (E.ST.appendW kHd w.heap.size (w0 := w) (s := .tmp 21) (x := .tmp 25) rfl hu45 info22b rfl (by decide) (by decide) (gr, k) rfl rfl rfl (fun _ _ => trivial) hO.s L L.size (by rw [hlen]; omega) fun u26 w26 r26 k26 g26 o26 => ⟨(E.SJ.before (by kernel_rfl)).mpr (((E.gbB lA).trans (E.gbB l24)).trans g26), ?_⟩))
  have bx26 := blk_grown hO.x g26 (Kd.R_ne hO.s hO.x (by decide))
  have hgx9 := hO.x
  replace L := k26
  obtain ⟨A26, c26, hu26⟩ := Kd.R_slice r26
  subst hu26
  refine E.GJ.take1t (i := 10) 11 rfl (by kernel_rfl) (by kernel_rfl) (by kernel_rfl) (by kernel_rfl) rfl (by kernel_rfl) rfl (by kernel_rfl) (by kernel_rfl) (by kernel_rfl) (by kernel_rfl) (by kernel_rfl) (by intro c a d v w h; first | (cases d <;> exact h) | exact nomatch (show _ ∧ _ from h).1) rfl rfl rfl (fun w' hS => (E.Runs.nilCheck rfl rfl)) ?_
  refine E.GJ.take1 (i := 11) rfl (by kernel_rfl) (by kernel_rfl) (by kernel_rfl) (by kernel_rfl) rfl (by kernel_rfl) (by kernel_rfl) (by intro c a d v w h; first | (cases d <;> exact h) | exact nomatch (show _ ∧ _ from h).1) rfl rfl rfl (fun w' hS => (E.Runs.fieldAddr rfl rfl hu74 rfl (by assumption) rfl)) ?_
  refine E.GJ.one (i := 12) (by kernel_rfl) (E.OJ.sn rfl rfl rfl (E.ST.storeSl (cs := [.slice A ns.length c, .int .i64 hold, vh.1, .map (some g7), .slice none 0 0]) (cs' := [.slice A ns.length c, .int .i64 hold, .slice A26 (vh.2 ++ [(gr, k)]).length c26, .map (some g7), .slice none 0 0]) rfl z45 o45 rfl rfl bx26 rfl rfl fun wX cX lX => ⟨(E.SJ.behind (by kernel_rfl)).mpr trivial, ?_⟩))
  have hO2 := hO.push (by rw [hlen]; exact hx) hgb hnew bR r26 g26 cX lX
  replace L := E.below_own L h9 lX
  refine E.GJ.done (by kernel_rfl) ?_
  refine E.QG.block_normal (E.qc (E.cl (E.gr rfl (E.Runs.add rfl rfl rfl (IntWalk.i64_in _ (by omega))) ?_)))
  refine E.gm rfl rfl rfl (E.gd ?_)
  exact E.QG.round2 (d := (.slice none 0 0, [])) (i + 1) (.slice A26 (vh.2 ++ [(gr, k)]).length c26, vh.2 ++ [(gr, k)]) (E.subc rfl (E.subc rfl (E.subc rfl (E.subc rfl E.subn)))) ⟨by omega, by rw [List.length_append, hlen]; rfl, hO2, L⟩ (by omega)
 ·refine E.gd (E.qc (E.cs (E.CG.cond_f rfl (E.CG.exit (E.QG.pass_exit (E.QG.pass_exit (E.QG.block_here (E.qc (E.cs ?_)))))))))
  refine E.cl (E.gm rfl rfl rfl (E.ga rfl rfl rfl (E.gd (E.qc (E.CG.ret ?_)))))
  obtain ⟨D, rfl, hDh, hDv, hM⟩ := hO.done (by omega) (by omega) ok.r h7 h9
  exact E.QG.result rfl rfl ⟨D, rfl, hM, hDh, hDv, L⟩

set_option maxRecDepth 100000 in
set_option maxHeartbeats 8000000 in

theorem insertion81e (A : Option Addr) (c : Nat) (w : World) : Calls Try.prog 81 #[.slice A 0 c, .int .i64 0, .int .i64 0, .func (.func 42) #[] #[]] w fun e w' => e = .returned (.tuple #[]) ∧ w' = w := by
 refine E.enter (N := 53) Try.func81 rfl Try.ntmps81 (args := [.slice A 0 c, .int .i64 0, .int .i64 0, .func (.func 42) #[] #[]]) (by simp) ?_
 
 refine E.cs (E.cl (E.gm rfl rfl rfl (E.gr rfl (E.Runs.add rfl rfl rfl (IntWalk.i64_in _ (by omega))) ?_)))
 refine E.ga rfl rfl rfl (E.gd (E.qc (E.CG.block (E.CG.loop (fun (j : Nat) => [(2, .int .i64 0), (8, .int .i64 1)]) (fun j w' => w = w') (fun j => 0) 0 (E.subc rfl (E.subc rfl E.subn)) rfl ?_))))
 rintro j w1 rfl
 refine E.cs (E.cs (E.cl (E.gm rfl rfl rfl (E.gm rfl rfl rfl (E.gr rfl (E.Runs.lss rfl rfl rfl (decide_eq_false (by omega))) ?_)))))
 refine E.gd (E.qc (E.CG.cond_f rfl (E.CG.exit (E.QG.pass_exit (E.QG.pass_exit (E.QG.block_here ?_))))))
 exact E.QG.result_n0 rfl ⟨rfl, rfl⟩

set_option maxRecDepth 100000 in
set_option maxHeartbeats 8000000 in

theorem pdq73e (A : Option Addr) (c : Nat) (lim : Int) (w : World) : Calls Try.prog 73 #[.slice A 0 c, .int .i64 0, .int .i64 0, .int .i64 lim, .func (.func 42) #[] #[]] w fun e w' => e = .returned (.tuple #[]) ∧ w' = w := by
 refine E.enter (N := 148) Try.func73 rfl Try.ntmps73 (args := [.slice A 0 c, .int .i64 0, .int .i64 0, .int .i64 lim, .func (.func 42) #[] #[]]) (by simp) ?_
 
 refine E.cs (E.cl (E.ga rfl rfl rfl (E.gd (E.qc (E.cs (E.cl (E.ga rfl rfl rfl (E.gd (E.qc ?_)))))))))
 refine E.CG.block (E.CG.loop (fun (j : Nat) => [(0, .slice A 0 c), (1, .int .i64 0), (2, .int .i64 0), (4, .func (.func 42) #[] #[])]) (fun j w' => w = w') (fun j => 0) 0 (E.subc rfl (E.subc rfl (E.subc rfl (E.subc rfl E.subn)))) rfl ?_)
 rintro j w2 rfl
 refine E.CG.block (E.cs (E.cl (E.gm rfl rfl rfl (E.gm rfl rfl rfl (E.gr rfl (E.Runs.sub rfl rfl rfl (IntWalk.i64_in _ (by omega))) ?_)))))
 refine E.ga rfl rfl rfl (E.gd (E.qc (E.cs (E.cs (E.cl (E.gm rfl rfl rfl (E.gr rfl (E.Runs.leq rfl rfl rfl (decide_eq_true (by omega))) ?_)))))))
 refine E.gd (E.qc (E.CG.cond_t rfl (E.cs (E.cl (E.gm rfl rfl rfl (E.gm rfl rfl rfl (E.gm rfl rfl rfl (E.gm rfl rfl rfl ?_))))))))
 refine E.GL.st rfl rfl rfl (E.ST.call rfl ent81 (E.evc rfl (E.evc rfl (E.evc rfl (E.evc rfl E.evn)))) ((insertion81e A c _).mono ?_))
 rintro e w30 ⟨rfl, rfl⟩
 refine ⟨_, rfl, ?_⟩
 refine E.gd (E.qc (E.CG.ret (E.QG.pass_ret (E.QG.block_ret (E.QG.pass_ret (E.QG.block_ret ?_))))))
 exact E.QG.result0 rfl ⟨rfl, rfl⟩

theorem len74e (w : World) : Calls Try.prog 74 #[.int .u64 0] w fun e w' => e = .returned (.int .i64 (Go.Lib.bitLen 0 : Nat)) ∧ w' = w :=
 Go.Proofs.Any.bits_Len (Go.Proofs.SlLaysF0.n15.bits (P := Try.prog) (ρ := sortC_ren) { sortC with }) 0 w (by omega) (by omega)
set_option maxRecDepth 100000 in
set_option maxHeartbeats 8000000 in

theorem sort59e (A : Option Addr) (c : Nat) (w : World) : Calls Try.prog 59 #[.slice A 0 c, .func (.func 42) #[] #[]] w fun e w' => e = .returned (.tuple #[]) ∧ w' = w := by
 have hu3 := Try.underlying3
 have hu25 := Try.underlying25
 have hu123 := Try.underlying123
 refine E.enter (N := 14) Try.func59 rfl Try.ntmps59 (args := [.slice A 0 c, .func (.func 42) #[] #[]]) (by simp) ?_
 
 refine E.cs (E.cl (E.gm rfl rfl rfl (E.gr rfl (E.Runs.len rfl rfl hu25) ?_)))
 refine E.ga rfl rfl rfl (E.gd (E.qc (E.cl (E.gm rfl rfl rfl (E.gm rfl rfl rfl (E.gm rfl rfl rfl (E.gr rfl (E.Runs.conv (a := 0) hu123 hu3 (.inl rfl) rfl rfl (by omega)) ?_)))))))
 refine E.GL.st rfl rfl rfl (E.ST.call rfl ent74 (E.evc rfl E.evn) ((len74e _).mono ?_))
 rintro e w11 ⟨rfl, rfl⟩
 refine ⟨_, rfl, ?_⟩
 refine E.gm rfl rfl rfl ?_
 refine E.GL.st rfl rfl rfl (E.ST.call rfl ent73 (E.evc rfl (E.evc rfl (E.evc rfl (E.evc rfl (E.evc rfl E.evn))))) ((pdq73e A c _ _).mono ?_))
 rintro e w13 ⟨rfl, rfl⟩
 refine ⟨_, rfl, ?_⟩
 refine E.gd ?_
 exact E.QG.result_n0 rfl ⟨rfl, rfl⟩

set_option maxRecDepth 100000 in
set_option maxHeartbeats 8000000 in

theorem compact44e (A : Option Addr) (c : Nat) (w : World) : Calls Try.prog 44 #[.slice A 0 c] w fun e w' => e = .returned (.slice A 0 c) ∧ w' = w := by
 have hu3 := Try.underlying3
 have hu25 := Try.underlying25
 refine E.enter (N := 61) Try.func44 rfl Try.ntmps44 (args := [.slice A 0 c]) (by simp) ?_
 
 refine E.cs (E.cl (E.ga rfl rfl rfl (E.gd (E.qc (E.cs (E.cs (E.cl (E.gm rfl rfl rfl (E.gr rfl (E.Runs.len rfl rfl hu25) ?_)))))))))
 refine E.gr rfl (E.Runs.lss rfl rfl rfl (decide_eq_true (by omega))) ?_
 refine E.gd (E.qc (E.CG.cond_t rfl (E.cs (E.cl (E.gm rfl rfl rfl (E.ga rfl rfl rfl (E.gd (E.qc (E.CG.ret ?_)))))))))
 refine E.QG.pass_ret ?_
 exact E.QG.result rfl rfl ⟨rfl, rfl⟩

set_option maxRecDepth 100000 in
set_option maxHeartbeats 8000000 in

theorem sorted40e (B : Option Addr) (b g : Nat) (l : List S64) (hl0 : l.length = 0) (w : World) (bg : w.heap[g]? = some (.cells #[.slice B l.length b] 25 (0, 0))) (hr : Kd.C k64 w B l.length l) :
  Calls Try.prog 40 #[.func (.func 60) #[] #[.pointer (some ⟨g, 0, none⟩)], .func (.func 42) #[] #[]] w fun e w' => ∃ A' c', e = .returned (.slice A' 0 c') ∧ Below w.heap.size w w' := by
 have hu25 := Try.underlying25
 refine E.enter (N := 12) Try.func40 rfl Try.ntmps40 (args := [.func (.func 60) #[] #[.pointer (some ⟨g, 0, none⟩)], .func (.func 42) #[] #[]]) (by simp) ?_
 have L := Below.refl w.heap.size w
 refine E.cs (E.cl (E.ga rfl rfl rfl (E.gd (E.qc (E.cs (E.cl (E.gm rfl rfl rfl ?_)))))))
 refine E.GL.st rfl rfl rfl (E.ST.call rfl ent58 (E.evc rfl E.evn) ((collect58 l B b g _ (blk_below bg L) (Kd.C_below hr L) (by omega)).mono ?_))
 rintro e w7 ⟨v7, rfl, R, l7⟩
 refine ⟨_, rfl, ?_⟩
 replace L := below_step L l7
 obtain ⟨A7, c7, hv7⟩ := Kd.R_slice R
 rw [hl0] at hv7
 subst hv7
 refine E.ga rfl rfl rfl (E.gd (E.qc (E.cs (E.cl (E.gm rfl rfl rfl (E.gm rfl rfl rfl ?_))))))
 refine E.GL.st rfl rfl rfl (E.ST.call rfl ent59 (E.evc rfl (E.evc rfl E.evn)) ((sort59e A7 c7 _).mono ?_))
 rintro e w10 ⟨rfl, rfl⟩
 refine ⟨_, rfl, ?_⟩
 refine E.gd (E.qc (E.cs (E.cl (E.gm rfl rfl rfl (E.ga rfl rfl rfl (E.gd (E.qc (E.CG.ret ?_))))))))
 exact E.QG.result rfl rfl ⟨A7, c7, rfl, L⟩

end Go.Proofs.Ytkjefnlhhfpllaa.T
namespace Go.Proofs.Ytkjefnlhhfpllaa.T
open Go.RowKit Go.Proofs.YtkjefnlhhfpllaaW.PrintWords Go.Proofs.YtkjefnlhhfpllaaW.PrintMore
open Go.Proofs.Ytkjefnlhhfpllaa.P
set_option linter.unusedVariables false
set_option linter.unusedSimpArgs false

open Go.Proofs.Ytkjefnlhhfpllaa.E (Mf upd)
section
variable {base : Nat} {w w' : World} {D : HD} {S : HS}
theorem srtd_nil {l : List S64} (h : l.length = 0) : Srtd l [] := by
 have : l = [] := List.length_eq_zero_iff.mp h
 subst this
 exact ⟨List.Perm.refl _, fun i j x y _ hx => by simp at hx⟩
theorem C_none {α : Type} (d : Kd α) (w : World) (A : Option Addr) : Kd.C d w A 0 [] := ⟨rfl, by simp, fun h => absurd h (by omega)⟩
theorem sorted40u (B : Option Addr) (b g : Nat) (l : List S64) (w : World) (bg : w.heap[g]? = some (.cells #[.slice B l.length b] 25 (0, 0))) (hr : Kd.C k64 w B l.length l) (hn : l.length ≤ 1000000) (hl : ∀ x ∈ l, LOk x) :
  Calls Try.prog 40 #[.func (.func 60) #[] #[.pointer (some ⟨g, 0, none⟩)], .func (.func 42) #[] #[]] w fun e w' => ∃ A' c' l', e = .returned (.slice A' l.length c') ∧ Srtd l l' ∧ (0 < l.length → ∃ g', A' = some ⟨g', 0, none⟩ ∧ w.heap.size ≤ g' ∧ Kd.R k64 64 w' w.heap.size (fun _ => True) (.slice A' l.length c') l') ∧ Below w.heap.size w w' := by
 rcases Nat.eq_zero_or_pos l.length with h0 | h0
 ·refine (sorted40e B b g l h0 w bg hr).mono ?_
  rintro e w' ⟨A', c', rfl, L⟩
  exact ⟨A', c', [], by rw [h0], srtd_nil h0, fun h => by omega, L⟩
 ·refine (sorted40 l B b g w bg hr hn hl h0).mono ?_
  rintro e w' ⟨g', c', l', rfl, hS, R, hg, L⟩
  exact ⟨_, c', l', rfl, hS, fun _ => ⟨g', rfl, hg, R⟩, L⟩
theorem compact44u (w0 : World) (A : Option Addr) (n c : Nat) (l : List S64) (w : World) (K : Below w0.heap.size w0 w) (hl : l.length = n) (hn : n ≤ 1000000) (R : 0 < n → ∃ g, A = some ⟨g, 0, none⟩ ∧ w0.heap.size ≤ g ∧ Kd.R k64 64 w w0.heap.size (fun _ => True) (.slice A n c) l) :
  Calls Try.prog 44 #[.slice A n c] w fun e w' => ∃ c', e = .returned (.slice A (cpt l).length c') ∧ Kd.C k64 w' A (cpt l).length (cpt l) ∧ (0 < n → ∃ g cs, A = some ⟨g, 0, none⟩ ∧ w'.heap[g]? = some (.cells cs 64 (0, 0))) ∧ Below w0.heap.size w0 w' := by
 rcases Nat.eq_zero_or_pos n with h0 | h0
 ·subst h0
  obtain rfl : l = [] := List.length_eq_zero_iff.mp hl
  refine (compact44e A c w).mono ?_
  rintro e w' ⟨rfl, rfl⟩
  exact ⟨c, rfl, C_none _ _ _, fun h => by omega, K⟩
 ·obtain ⟨g, rfl, hg, R⟩ := R h0
  refine (compact44 w0 g n c l w hg K R hl hn).mono ?_
  rintro e w' ⟨c', rfl, hC, ⟨cs, hT⟩, L⟩
  exact ⟨c', rfl, hC, fun _ => ⟨g, cs, rfl, hT⟩, L⟩
/-- The calls lie in a block of their own type: what is done to a house leaves them. -/
theorem C_kp {A : Option Addr} {n : Nat} {l : List S64} (h : Kd.C k64 w A n l) (k : Kp base w w') (hT : 0 < n → ∃ g cs, A = some ⟨g, 0, none⟩ ∧ w.heap[g]? = some (.cells cs 64 (0, 0))) : Kd.C k64 w' A n l ∧ (0 < n → ∃ g cs, A = some ⟨g, 0, none⟩ ∧ w'.heap[g]? = some (.cells cs 64 (0, 0))) := by
 obtain ⟨h1, h2, h3⟩ := h
 refine ⟨⟨h1, h2, fun hn => ?_⟩, fun hn => ?_⟩
 ·obtain ⟨g, cs, rfl, hg⟩ := hT hn
  have hg' := k.at_ hg (by decide)
  obtain ⟨ad, e, hc⟩ := h3 hn
  injection e with e
  subst e
  refine ⟨_, rfl, fun j x hj => ?_⟩
  obtain ⟨ds, q1, q2, q3⟩ := hc j x hj
  refine ⟨ds, q1, ?_, fun i u hu => ?_⟩
  ·rw [k64_open q2]
   exact k64_mk _ _
  ·have := q3 i u hu
   rw [Addr.add_mid, blk_cell hg] at this
   rw [Addr.add_mid, blk_cell hg']
   exact this
 ·obtain ⟨g, cs, e, hg⟩ := hT hn
  exact ⟨g, cs, e, k.at_ hg (by decide)⟩
theorem kp_link {w0 w1 w2 : World} (L : Below w0.heap.size w0 w1) (h : w0.heap.size ≤ base) (k : Kp base w1 w2) (hb : base ≤ w1.heap.size) : Below w0.heap.size w0 w2 := L.trans ((k.below hb).mono h)
theorem AfterR.ok {hold minute : Int} {ns : List Int} {cl : List S64} {S' : HS} (h : AfterR hold minute ns cl S') (hn : AllR ns 1 12) (hl : ∀ c ∈ cl, LOk c) : HI ns S' := by
 obtain ⟨k, S1, _, _, _, h4, h5⟩ := h
 exact HI.lap (HI.run (openS_ok hn) (fun c hc => hl c (List.mem_of_mem_take hc)) h4) h5
theorem srtd_ok {l l' : List S64} (h : Srtd l l') (hl : ∀ x ∈ l, LOk x) : ∀ c ∈ cpt l', LOk c := fun c hc => hl c (h.1.mem_iff.mp (cpt_mem hc))
end
set_option maxRecDepth 100000 in
set_option maxHeartbeats 8000000 in

theorem after31 (ns : List Int) (hold : Int) (A : Option Addr) (a : Nat) (l : List S64) (B : Option Addr) (b : Nat) (minute : Int) (w : World) (hr : Kd.C kI w A ns.length ns) (ok : HOk ns hold) (hl : Kd.C k64 w B l.length l) (lk : LsOk l) (hm : 0 ≤ minute ∧ minute ≤ 9999) :
  Calls Try.prog 31 #[.agg #[.slice A ns.length a, .int .i64 hold], .slice B l.length b, .int .i64 minute] w fun e w' => ∃ (base : Nat) (D : HD) (S' : HS) (l' : List S64), e = .returned (.pointer (some ⟨D.gx, 0, none⟩)) ∧ w.heap.size ≤ base ∧ base ≤ w'.heap.size ∧ HM base w' D S' ∧ Srtd l l' ∧ AfterR hold minute ns (cpt l') S' ∧ Below w.heap.size w w' := by
 have hln := lk.n
 have hu3 := Try.underlying3
 have hu24 := Try.underlying24
 have hu25 := Try.underlying25
 have hu64 := Try.underlying64
 obtain ⟨z3, o3⟩ := info_some info3s (by decide)
 obtain ⟨z24, o24⟩ := info_some info24s (by decide)
 obtain ⟨z64, o64⟩ := info_some info64s (by decide)
 refine E.enter (N := 39) Try.func31 rfl Try.ntmps31 (args := [.agg #[.slice A ns.length a, .int .i64 hold], .slice B l.length b, .int .i64 minute]) (by simp) ?_
 have L := Below.refl w.heap.size w
 refine E.cs (E.cl ?_)
 refine E.GL.st rfl rfl rfl (E.ST.box rfl rfl fun g3 w3 e3 b3 l3 => ?_)
 have h3_L : w.heap.size ≤ g3 := by rw [e3]; exact L.size
 replace L := below_step L l3
 refine E.ga rfl rfl rfl (E.gd (E.qc (E.cs ?_)))
 have L3 := L
 refine E.cl (E.gr rfl (E.Runs.loads (cs := [.slice A ns.length a, .int .i64 hold]) rfl rfl hu24 rfl info24s (blk_cells b3)) ?_)
 refine E.GL.st rfl rfl rfl (E.ST.call rfl ent39 (E.evc rfl E.evn) ((open39 ns hold A a _ (Kd.C_below hr L) ok).mono ?_))
 rintro e w12 ⟨D, rfl, hM, hDh, hDv, l12⟩
 refine ⟨_, rfl, ?_⟩
 replace b3 := blk_below b3 l12
 replace L := below_step L l12
 have hbw : w3.heap.size ≤ w12.heap.size := l12.size
 have hI0 := openS_ok ok.r
 refine E.ga rfl rfl rfl (E.gd (E.qc (E.cs (E.cl (E.gm rfl rfl rfl ?_)))))
 refine E.GL.st rfl rfl rfl (E.ST.call rfl ent41 (E.evc rfl E.evn) ((values_calls l B b _).mono ?_))
 rintro e w14 ⟨gv, rfl, bv, hgv, l14⟩
 refine ⟨_, rfl, ?_⟩
 replace b3 := blk_below b3 l14
 replace L := below_step L l14
 replace hM := hM.below l14
 have L14 := L
 refine E.GL.st rfl rfl rfl (E.ST.call rfl ent40 (E.evc rfl (E.evc rfl E.evn)) ((sorted40u B b gv l _ bv (Kd.C_below hl L) (by omega) lk.c).mono ?_))
 rintro e w15 ⟨A8, c8, l', rfl, hS, hR8, l15⟩
 refine ⟨_, rfl, ?_⟩
 replace b3 := blk_below b3 l15
 replace L := below_step L l15
 have hlc := cpt_len l'
 have hll := hS.1.length_eq
 refine E.ga rfl rfl rfl (E.gd (E.qc (E.cs (E.cs (E.cl (E.gm rfl rfl rfl ?_))))))
 refine E.GL.st rfl rfl rfl (E.ST.call rfl ent44 (E.evc rfl E.evn) ((compact44u w14 A8 l.length c8 l' _ l15 hS.1.length_eq (by omega) hR8).mono ?_))
 rintro e w17 ⟨c17, rfl, hC, hT, l17⟩
 refine ⟨_, rfl, ?_⟩
 replace hM := hM.below l17
 replace L := below_step L14 l17
 have hL3 : w3.heap.size ≤ w17.heap.size := by have := l12.size; have := l14.size; have := l17.size; omega
 refine E.gr rfl (E.Runs.len rfl rfl hu25) ?_
 refine E.gm rfl rfl rfl (E.gd (E.qc (E.CG.block ?_)))
 have hL3b : w.heap.size ≤ w3.heap.size := by rw [show w3.heap.size = w3.heap.size from rfl]; exact L3.size
 have hT0 : 0 < (cpt l').length → ∃ g cs, A8 = some ⟨g, 0, none⟩ ∧ w17.heap[g]? = some (.cells cs 64 (0, 0)) := fun h => hT (by omega)
 have s4_b3 := b3
 have s4_L := L
 refine E.CG.loop2 (fun (i : Nat) (q : HS × HD) => [(2, .int .i64 minute), (7, .pointer (some ⟨q.2.gx, 0, none⟩)), (17, .slice A8 (cpt l').length c17), (18, .int .i64 ((cpt l').length : Int)), (19, .int .i64 (i : Int))]) (fun i q w' => i ≤ (cpt l').length ∧ q.2.hold = hold ∧ q.2.vl.length ≤ i ∧ HM w3.heap.size w' q.2 q.1 ∧ RunF hold (openS ns) ((cpt l').take i) q.1 ∧ (∀ c ∈ (cpt l').take i, c.f1 ≤ minute) ∧ Kd.C k64 w' A8 (cpt l').length (cpt l') ∧ (0 < (cpt l').length → ∃ g cs, A8 = some ⟨g, 0, none⟩ ∧ w'.heap[g]? = some (.cells cs 64 (0, 0))) ∧ w3.heap.size ≤ w'.heap.size ∧ Below w.heap.size w w') (fun i q => (cpt l').length - i) 0 (openS ns, D) (E.subc rfl (E.subc rfl (E.subc rfl (E.subc rfl (E.subc rfl E.subn))))) ⟨Nat.zero_le _, hDh, by rw [hDv]; exact Nat.le_refl _, hM, rfl, (fun c hc => by simp at hc), hC, hT0, hL3, L⟩ ?_
 rintro i q w4 ⟨hi, hDh, hvl, hM, hrun, hat, hC, hT, hszq, L⟩
 have hIq := HI.run (openS_ok ok.r) (fun c hc => srtd_ok hS lk.c c (List.mem_of_mem_take hc)) hrun
 refine E.cs ?_
 skip
 refine E.cl ?_
 refine E.GL.cmp rfl rfl rfl (fun _ h => (E.Runs.lss rfl rfl rfl h)) (fun h20 => ?_) (fun h20 => ?_)
 ·obtain ⟨x, hx⟩ := get_ex (show i < (cpt l').length by omega)
  obtain ⟨ad, eA, X⟩ := call_at hC hx
  have hxo := srtd_ok hS lk.c x (mem_of hx)
  have hxn := hxo.n
  unfold inR at hxn
  have hxa : 0 ≤ x.f1 ∧ x.f1 ≤ 9999 := hxn.2.1
  refine E.gd (E.qc (E.cs (E.CG.cond_t rfl (E.CG.skip (E.qc (E.cs (E.CG.block (E.cs (E.cl ?_)))))))))
  refine E.gr rfl (E.Runs.indexAddrA (i := i) rfl rfl rfl hu25 z64 o64 (by omega) eA rfl) ?_
  refine E.gr rfl (E.Runs.loads (cs := [.int .i64 x.f0, .int .i64 x.f1, .int .i64 x.f2, .int .i64 x.f3, .int .i64 x.f4]) rfl rfl hu64 rfl info64s (fun j v hv => X j v hv)) ?_
  refine E.GL.st rfl rfl rfl (E.ST.alloc rfl info64z fun g10 w10 e10 b10 l10 => ?_)
  have h10_L : w.heap.size ≤ g10 := by rw [e10]; exact L.size
  replace L := below_step L l10
  have Lx := L
  refine E.GL.store_whole rfl rfl rfl rfl rfl b10 rfl info64s (call_one _) fun wS5_3 c10 lS5_3 => ?_
  replace L := E.below_own L h10_L lS5_3
  replace b10 := c10
  clear c10
  have l510 := new_stored l10 (by rw [e10]; exact Nat.le_refl _) lS5_3
  replace hM := hM.below l510
  obtain ⟨hC, hT⟩ := C_kp hC (Kp.of l510 (base := w3.heap.size)) hT
  refine E.gd (E.qc (E.cs (E.cs (E.cl (E.gr rfl (E.Runs.fieldAddr rfl rfl hu64 rfl (by assumption) rfl) ?_)))))
  refine E.gr rfl (E.Runs.load rfl rfl hu3 (by first | assumption | exact E.blkc (by assumption) rfl | exact pw_cell_below L (by assumption))) ?_
  refine E.gm rfl rfl rfl ?_
  refine E.GL.cmp rfl rfl rfl (fun _ h => (E.Runs.gtr rfl rfl rfl h)) (fun h26 => ?_) (fun h26 => ?_)
  ·have hcl : (∀ c, (cpt l')[i]? = some c → minute < c.f1) := fun c hc => by rw [hx] at hc; cases hc; omega
   have hsz := Nat.le_trans hszq l510.size
   refine E.gd (E.qc (E.CG.cond_t rfl (E.CG.exit (E.QG.pass_exit (E.QG.block_out rfl (E.QG.pass_exit (E.QG.pass_exit (E.QG.block_here (E.qc ?_)))))))))
   refine E.cs (E.cl (E.gm rfl rfl rfl (E.gm rfl rfl rfl ?_)))
   refine E.GL.st rfl rfl rfl (E.ST.call rfl ent45 (E.evc rfl (E.evc rfl E.evn)) ((lapse45 hM hIq (hold := hold) ok minute hm hDh).mono ?_))
   rintro e w37 ⟨S2, rfl, hM, hLap, K2⟩
   refine ⟨_, rfl, ?_⟩
   replace L := kp_link L hL3b K2 hsz
   refine E.gd (E.qc (E.cs (E.cl (E.gm rfl rfl rfl (E.ga rfl rfl rfl (E.gd (E.qc (E.CG.ret ?_))))))))
   exact E.QG.result rfl rfl ⟨w3.heap.size, q.2, S2, l', rfl, hL3b, Nat.le_trans hsz K2.size, hM, hS, ⟨i, q.1, hi, hat, hcl, hrun, hLap⟩, L⟩
  ·refine E.gd (E.qc (E.CG.cond_f rfl (E.CG.skip (E.qc (E.cs ?_)))))
   have hsz : w3.heap.size ≤ wS5_3.heap.size := Nat.le_trans hszq l510.size
   refine E.cl (E.gm rfl rfl rfl (E.gr rfl (E.Runs.fieldAddr rfl rfl hu64 rfl (by assumption) rfl) ?_))
   refine E.gr rfl (E.Runs.load rfl rfl hu3 (by first | assumption | exact E.blkc (by assumption) rfl | exact pw_cell_below L (by assumption))) ?_
   refine E.GL.st rfl rfl rfl (E.ST.call rfl ent45 (E.evc rfl (E.evc rfl E.evn)) ((lapse45 hM hIq (hold := hold) ok x.f1 hxa hDh).mono ?_))
   rintro e w30 ⟨S2, rfl, hM, hLap, K2⟩
   refine ⟨_, rfl, ?_⟩
   replace b10 := K2.at_ b10 (by decide)
   replace L := kp_link L hL3b K2 hsz
   obtain ⟨hC, hT⟩ := C_kp hC K2 hT
   have hbq := Nat.le_trans hsz K2.size
   have hI2 := hIq.lap hLap
   refine E.gd (E.qc (E.cl (E.gm rfl rfl rfl (E.gr rfl (E.Runs.loads (cs := [.int .i64 x.f0, .int .i64 x.f1, .int .i64 x.f2, .int .i64 x.f3, .int .i64 x.f4]) rfl rfl hu64 rfl info64s (blk_cells b10)) ?_))))
   refine E.GL.st rfl rfl rfl (E.ST.call rfl ent46 (E.evc rfl (E.evc rfl E.evn)) ((hear46 (D := q.2) hM hbq hI2 ok x hxo (by omega)).mono ?_))
   rintro e w33 ⟨f', v', vl', rfl, hvl2, hM, K3⟩
   refine ⟨_, rfl, ?_⟩
   replace L := kp_link L hL3b K3 hbq
   obtain ⟨hC, hT⟩ := C_kp hC K3 hT
   have hrun2 := hrun.snoc hLap
   refine E.gd (E.QG.block_normal (E.qc (E.cl (E.gr rfl (E.Runs.add rfl rfl rfl (IntWalk.i64_in _ (by omega))) ?_))))
   refine E.gm rfl rfl rfl (E.gd ?_)
   exact E.QG.round2 (d := (openS ns, D)) (i + 1) (hearS S2 x, { q.2 with f := f', v := v', vl := vl' }) (E.subc rfl (E.subc rfl (E.subc rfl (E.subc rfl (E.subc rfl E.subn))))) ⟨by omega, hDh, by show vl'.length ≤ i + 1; omega, hM, by rw [take_one hx]; exact hrun2, (fun c hc => by rw [take_one hx] at hc; rcases List.mem_append.mp hc with h | h; exact hat c h; rw [List.mem_singleton.mp h]; omega), hC, hT, Nat.le_trans hbq K3.size, L⟩ (by omega)
 ·have hcl : (∀ c, (cpt l')[i]? = some c → minute < c.f1) := fun c hc => by have := get_lt hc; omega
  have hsz := hszq
  refine E.gd (E.qc (E.cs (E.CG.cond_f rfl (E.CG.exit (E.QG.pass_exit (E.QG.pass_exit (E.QG.block_here (E.qc (E.cs ?_)))))))))
  refine E.cl (E.gm rfl rfl rfl (E.gm rfl rfl rfl ?_))
  refine E.GL.st rfl rfl rfl (E.ST.call rfl ent45 (E.evc rfl (E.evc rfl E.evn)) ((lapse45 hM hIq (hold := hold) ok minute hm hDh).mono ?_))
  rintro e w37 ⟨S2, rfl, hM, hLap, K2⟩
  refine ⟨_, rfl, ?_⟩
  replace L := kp_link L hL3b K2 hsz
  refine E.gd (E.qc (E.cs (E.cl (E.gm rfl rfl rfl (E.ga rfl rfl rfl (E.gd (E.qc (E.CG.ret ?_))))))))
  exact E.QG.result rfl rfl ⟨w3.heap.size, q.2, S2, l', rfl, hL3b, Nat.le_trans hsz K2.size, hM, hS, ⟨i, q.1, hi, hat, hcl, hrun, hLap⟩, L⟩

end Go.Proofs.Ytkjefnlhhfpllaa.T
namespace Go.Proofs.Ytkjefnlhhfpllaa.T
open Go.RowKit Go.Proofs.YtkjefnlhhfpllaaW.PrintWords Go.Proofs.YtkjefnlhhfpllaaW.PrintMore
open Go.Proofs.Ytkjefnlhhfpllaa.P
open Go.Proofs.Ytkjefnlhhfpllaa.E (Mf upd)
set_option linter.unusedVariables false
set_option linter.unusedSimpArgs false
def e4L : List S64 := [⟨1, 0, 1, 1, 2⟩, ⟨2, 1, 1, 2, 2⟩, ⟨3, 5, 2, 1, 0⟩, ⟨4, 12, 1, 3, 3⟩, ⟨5, 11, 2, 2, 0⟩]
def e4S : List S64 := [⟨1, 0, 1, 1, 2⟩, ⟨2, 1, 1, 2, 2⟩, ⟨3, 5, 2, 1, 0⟩, ⟨5, 11, 2, 2, 0⟩, ⟨4, 12, 1, 3, 3⟩]
theorem e4_ok : LsOk e4L := ⟨by decide, fun x hx => by
  simp only [e4L, List.mem_cons, List.not_mem_nil, or_false] at hx
  rcases hx with rfl | rfl | rfl | rfl | rfl <;> exact ⟨by decide, by decide⟩, fun i j x y hij hx hy e => by
  have hj := get_lt hy
  have hi := get_lt hx
  simp only [e4L, List.length_cons, List.length_nil] at hi hj
  match i, j, hi, hj, hij with
  | 0, 0, _, _, h => omega
  | 1, 0, _, _, _ => simp [e4L] at hx hy; subst hx hy; simp at e
  | 2, 0, _, _, _ => simp [e4L] at hx hy; subst hx hy; simp at e
  | 3, 0, _, _, _ => simp [e4L] at hx hy; subst hx hy; simp at e
  | 4, 0, _, _, _ => simp [e4L] at hx hy; subst hx hy; simp at e
  | 2, 1, _, _, _ => simp [e4L] at hx hy; subst hx hy; simp at e
  | 3, 1, _, _, _ => simp [e4L] at hx hy; subst hx hy; simp at e
  | 4, 1, _, _, _ => simp [e4L] at hx hy; subst hx hy; simp at e
  | 3, 2, _, _, _ => simp [e4L] at hx hy; subst hx hy; simp at e
  | 4, 2, _, _, _ => simp [e4L] at hx hy; subst hx hy; simp at e
  | 4, 3, _, _, _ => simp [e4L] at hx hy; subst hx hy; simp at e
  | i + 5, _, h, _, _ => omega
  | i, j + 5, _, h, _ => omega
  | 1, 1, _, _, h => omega
  | 2, 2, _, _, h => omega
  | 3, 3, _, _, h => omega
  | 4, 4, _, _, h => omega
  | 0, 1, _, _, h => omega
  | 0, 2, _, _, h => omega
  | 0, 3, _, _, h => omega
  | 0, 4, _, _, h => omega
  | 1, 2, _, _, h => omega
  | 1, 3, _, _, h => omega
  | 1, 4, _, _, h => omega
  | 2, 3, _, _, h => omega
  | 2, 4, _, _, h => omega
  | 3, 4, _, _, h => omega⟩
theorem e4_hall : HOk [5, 3] 10 := ⟨by decide, fun x hx => by
  simp only [List.mem_cons, List.not_mem_nil, or_false] at hx
  rcases hx with rfl | rfl <;> decide, by decide⟩
theorem pw_of {l : List S64} (h : ∀ (i j : Nat) x y, i < j → l[i]? = some x → l[j]? = some y → ltL y x = false) : l.Pairwise (fun x y => ltL y x = false) := by
 rw [List.pairwise_iff_getElem]
 intro i j hi hj hij
 exact h i j _ _ hij (List.getElem?_eq_getElem hi) (List.getElem?_eq_getElem hj)
theorem e4_sorted {l' : List S64} (h : Srtd e4L l') : l' = e4S := by
 have p : l'.Perm e4S := h.1.trans (by decide)
 refine p.eq_of_pairwise (le := fun x y => ltL y x = false) (fun a b ha hb h1 h2 => ?_) (pw_of h.2) (by decide)
 have ha' := p.mem_iff.mp ha
 simp only [e4S, List.mem_cons, List.not_mem_nil, or_false] at ha' hb
 rcases ha' with rfl | rfl | rfl | rfl | rfl <;> rcases hb with rfl | rfl | rfl | rfl | rfl <;> first | rfl | exact absurd h1 (by decide) | exact absurd h2 (by decide)
section
variable {hold minute : Int} {S S' : HS}
theorem lap_fold {ks : List Int} (h : ∀ n o, S.ord n = some o → ¬ due hold minute o) : ks.foldl (lapN hold minute) S = S := by
 induction ks with
 | nil => rfl
 | cons n t ih =>
  rw [List.foldl_cons]
  have : lapN hold minute S n = S := by
   cases e : S.ord n with
   | none => unfold lapN; rw [e]
   | some o => exact lapN_not e (h n o e)
  rw [this]
  exact ih
theorem lap_none (h : ∀ n o, S.ord n = some o → ¬ due hold minute o) (k : Lap hold minute S S') : S' = S := by
 obtain ⟨ks, _, rfl⟩ := k
 exact lap_fold h
theorem lap_one {n : Int} {o : Od} (hn : S.ord n = some o) (hd : due hold minute o) (h : ∀ m o', m ≠ n → S.ord m = some o' → ¬ due hold minute o') (k : Lap hold minute S S') : S' = leaveS S n o 4 := by
 obtain ⟨ks, h1, rfl⟩ := k
 have h2 := h1 n o hn
 clear h1
 have hs : ∀ m o', (leaveS S n o 4).ord m = some o' → ¬ due hold minute o' := fun m o' hm => by
  by_cases e : m = n
  ·subst e
   simp only [leaveS, upd, if_true] at hm
   cases hm
   exact fun q => absurd q.1 (by show ¬ (4 : Int) = 2; decide)
  ·simp only [leaveS, upd, e, if_false] at hm
   exact h m o' e hm
 induction ks with
 | nil => cases h2
 | cons m t ih =>
  rw [List.foldl_cons]
  by_cases e : m = n
  ·subst e
   rw [lapN_due hn hd]
   exact lap_fold hs
  ·have : lapN hold minute S m = S := by
    cases q : S.ord m with
    | none => unfold lapN; rw [q]
    | some o' => exact lapN_not q (h m o' e q)
   rw [this]
   exact ih (by rcases List.mem_cons.mp h2 with q | q; exact absurd q.symm e; exact q)
theorem upd_all {f : Int → Option Od} {p : Int → Od → Prop} {m : Int} {o : Od} (h : ∀ n o, f n = some o → p n o) (hm : p m o) : ∀ n o', upd f m o n = some o' → p n o' := fun n o' hn => by
 unfold upd at hn
 split at hn
 ·next e =>
  cases hn
  rw [e]
  exact hm
 ·exact h n o' hn
end
abbrev f0 : Int → Option Od := fun _ => none
def r5 (a b c d e : Int) : List (List Int) := [[a, b, c, d, e], [-1, -1, -1]]
def s1 : HS := ⟨r5 1 1 (-1) (-1) (-1), upd (upd f0 1 o0) 1 ⟨2, 0, 0, 2, 0⟩⟩
def s2 : HS := ⟨r5 1 1 2 2 (-1), upd (upd s1.ord 2 o0) 2 ⟨2, 0, 2, 2, 1⟩⟩
def s3 : HS := ⟨r5 1 1 2 2 (-1), upd s2.ord 1 ⟨3, 0, 0, 2, 0⟩⟩
def s4 : HS := ⟨r5 1 1 (-1) (-1) (-1), upd s3.ord 2 ⟨4, -1, -1, 2, 1⟩⟩
def s5 : HS := ⟨r5 1 1 3 3 3, upd (upd s4.ord 3 o0) 3 ⟨2, 0, 2, 3, 12⟩⟩
theorem h1 : hearS (openS [5, 3]) ⟨1, 0, 1, 1, 2⟩ = s1 := by kernel_rfl
theorem h2 : hearS s1 ⟨2, 1, 1, 2, 2⟩ = s2 := by kernel_rfl
theorem h3 : hearS s2 ⟨3, 5, 2, 1, 0⟩ = s3 := by kernel_rfl
theorem h4 : leaveS s3 2 ⟨2, 0, 2, 2, 1⟩ 4 = s4 := by kernel_rfl
theorem h5 : hearS s4 ⟨5, 11, 2, 2, 0⟩ = s4 := by kernel_rfl
theorem h6 : hearS s4 ⟨4, 12, 1, 3, 3⟩ = s5 := by kernel_rfl
theorem f0_all {p : Int → Od → Prop} : ∀ n o, f0 n = some o → p n o := fun n o h => by cases h
theorem s3_ord {p : Int → Od → Prop} (a : ∀ n, p n o0) (b : p 1 ⟨2, 0, 0, 2, 0⟩) (c : p 2 ⟨2, 0, 2, 2, 1⟩) (d : p 1 ⟨3, 0, 0, 2, 0⟩) : ∀ n o, s3.ord n = some o → p n o := upd_all (upd_all (upd_all (upd_all (upd_all f0_all (a 1)) b) (a 2)) c) d
theorem s3o (t : Int) : ∀ m o', m ≠ 2 → s3.ord m = some o' → ¬ due 10 t o' := fun m o' hm ho => by
 by_cases e1 : m = 1
 ·subst e1
  have : s3.ord 1 = some ⟨3, 0, 0, 2, 0⟩ := by kernel_rfl
  rw [this] at ho
  cases ho
  exact fun q => absurd q.1 (by decide)
 ·exact s3_ord (p := fun n o => n ≠ 2 → n ≠ 1 → ¬ due 10 t o) (fun _ _ _ q => absurd q.1 (by decide)) (fun _ q => absurd rfl q) (fun q _ => absurd rfl q) (fun _ q => absurd rfl q) m o' ho hm e1
theorem e4_last {S' : HS} {l' : List S64} (h : Srtd e4L l') (k : AfterR 10 12 [5, 3] (cpt l') S') : S' = s5 := by
 obtain rfl := e4_sorted h
 rw [show cpt e4S = e4S from by decide] at k
 obtain ⟨j, S1, k1, k2, k3, k4, k5⟩ := k
 have hj : j = 5 := by
  rcases Nat.lt_or_ge j 5 with q | q
  ·obtain ⟨c, hc⟩ := get_ex (show j < e4S.length from q)
   have h1 := k3 c hc
   have h2 : c.f1 ≤ 12 := by
    have := mem_of hc
    simp only [e4S, List.mem_cons, List.not_mem_nil, or_false] at this
    rcases this with rfl | rfl | rfl | rfl | rfl <;> decide
   omega
  ·exact Nat.le_antisymm k1 q
 subst hj
 rw [show e4S.take 5 = e4S from rfl] at k4
 obtain ⟨t1, a1, k4⟩ := k4
 rw [lap_none (by intro n o h; cases h) a1, h1] at k4
 obtain ⟨t2, a2, k4⟩ := k4
 rw [lap_none (S := s1) (upd_all (upd_all f0_all (by decide)) (by decide)) a2, h2] at k4
 obtain ⟨t3, a3, k4⟩ := k4
 rw [lap_none (S := s2) (upd_all (upd_all (upd_all (upd_all f0_all (by decide)) (by decide)) (by decide)) (by decide)) a3, h3] at k4
 obtain ⟨t4, a4, k4⟩ := k4
 rw [lap_one (S := s3) (n := 2) (o := ⟨2, 0, 2, 2, 1⟩) (by kernel_rfl) (by decide) (s3o 11) a4, h4, h5] at k4
 obtain ⟨t5, a5, k4⟩ := k4
 have s4o : ∀ m, 12 ≤ m → m ≤ 12 → ∀ n o, s4.ord n = some o → ¬ due 10 m o := fun m q1 q2 n o ho => by
  obtain rfl : m = 12 := by omega
  by_cases e : n = 2
  ·subst e
   have : s4.ord 2 = some ⟨4, -1, -1, 2, 1⟩ := by kernel_rfl
   rw [this] at ho
   cases ho
   decide
  ·have : s4.ord n = s3.ord n := by simp [s4, upd, e]
   rw [this] at ho
   exact s3o 12 n o e ho
 rw [lap_none (s4o 12 (by decide) (by decide)) a5, h6] at k4
 have k4' : S1 = s5 := k4
 subst k4'
 refine lap_none (S := s5) ?_ k5
 refine upd_all (upd_all ?_ (by decide)) (by decide)
 exact s4o 12 (by decide) (by decide)
theorem e4_order {S' : HS} {l' : List S64} {o : Od} (h : Srtd e4L l') (k : AfterR 10 12 [5, 3] (cpt l') S') (ho : (ofS S' 3).ord 3 = some o) : o = ⟨2, 0, 2, 3, 12⟩ := by
 rw [e4_last h k, show (ofS s5 3).ord 3 = some ⟨2, 0, 2, 3, 12⟩ from by kernel_rfl] at ho
 cases ho
 rfl
end Go.Proofs.Ytkjefnlhhfpllaa.T
