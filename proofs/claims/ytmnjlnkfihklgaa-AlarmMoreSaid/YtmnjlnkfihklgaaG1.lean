/- Texts of this claim, put together: Z, A0, E0, Z2, E1, E2, E3, E4, E5, E6, E7, E8, E9, E10, E11, B1, N1, N2, N3, E12, A1, N4, A2, N5, E13. -/
import Derived.Test.YtmnjlnkfihklgaaProg
import Derived.Below
import Derived.Deep.Draws
import Derived.Deep.AppendLies
import Derived.Maps.AppendAt
import Derived.OwnWalk
import Derived.Laws.BytesArg
import Derived.Laws.MakeOwn
import Derived.Laws.OwnMore
import Derived.Deep.OwnRows
import Derived.Tactics
import Derived.Lib.ConvBytes
import Derived.Laws.Slices
import Derived.WalkKit
import Derived.KernelRfl
import Derived.RowKit3
import Derived.Deep.LoopGhost
import Derived.Deep.QuietTactic
import Derived.BigQuiet
import Derived.WideLaws
import Derived.Deep.DeepCutAuto
import Derived.Deep.CutBlock
import Derived.Deep.RegionHeld3
import Derived.Laws.Rows
import Derived.Lib.AppendStr
import Derived.ArgAppend
import Derived.Laws.IdiomCopy
import Derived.OrdersHeld
import Derived.Laws.BitsLemmas
import Derived.RowKit
import Derived.Laws.EntriesVeiled
import Derived.Outline
import Derived.Deep.MidRow
import Derived.Deep.RegionHeld
import Derived.Lib.Hide
import Derived.Lib.SliceRun
import Derived.Test.YtmnjlnkfihklgaaWWords
import Derived.RangeFuncNested
import Derived.RangeFuncBound
import Derived.RangeFuncCalls
import Derived.RangeFuncLeaves
import Derived.OwnWalkIn
namespace Go.Proofs.YtmnjlnkfihklgaaW.PrintMore
open Go.RowKit Go.Proofs.YtmnjlnkfihklgaaW.PrintWords
set_option linter.unusedVariables false
set_option linter.unusedSimpArgs false
theorem max2_int (k k' : IntKind) (x y : Int) : Builtin.max2 (.int k x) (.int k' y) = pure (.int k (if x < y then y else x)) := by
  unfold Builtin.max2
  simp only [gt_iff_lt]
theorem min2_int (k k' : IntKind) (x y : Int) : Builtin.min2 (.int k x) (.int k' y) = pure (.int k (if y < x then y else x)) := by
  unfold Builtin.min2
  simp only [gt_iff_lt]
theorem max_two (ts : Array TypeId) (t : TypeId) (a b : Value) : Builtin.max_ ts t #[a, b] = (Builtin.max2 a b >>= fun s => pure s) := by simp only [Builtin.max_, List.foldlM_cons, List.foldlM_nil]
theorem min_two (ts : Array TypeId) (t : TypeId) (a b : Value) : Builtin.min_ ts t #[a, b] = (Builtin.min2 a b >>= fun s => pure s) := by simp only [Builtin.min_, List.foldlM_cons, List.foldlM_nil]
theorem max_three (ts : Array TypeId) (t : TypeId) (a b c : Value) : Builtin.max_ ts t #[a, b, c] = (Builtin.max2 a b >>= fun s => Builtin.max2 s c >>= fun s => pure s) := by simp only [Builtin.max_, List.foldlM_cons, List.foldlM_nil]
theorem min_three (ts : Array TypeId) (t : TypeId) (a b c : Value) : Builtin.min_ ts t #[a, b, c] = (Builtin.min2 a b >>= fun s => Builtin.min2 s c >>= fun s => pure s) := by simp only [Builtin.min_, List.foldlM_cons, List.foldlM_nil]
theorem max_four (ts : Array TypeId) (t : TypeId) (a b c d : Value) : Builtin.max_ ts t #[a, b, c, d] = (Builtin.max2 a b >>= fun s => Builtin.max2 s c >>= fun s => Builtin.max2 s d >>= fun s => pure s) := by simp only [Builtin.max_, List.foldlM_cons, List.foldlM_nil]
theorem min_four (ts : Array TypeId) (t : TypeId) (a b c d : Value) : Builtin.min_ ts t #[a, b, c, d] = (Builtin.min2 a b >>= fun s => Builtin.min2 s c >>= fun s => Builtin.min2 s d >>= fun s => pure s) := by simp only [Builtin.min_, List.foldlM_cons, List.foldlM_nil]
section
variable {P : Program} {ops : Array Oper} {rest : List Oper} {o : Oper} {a : Act} {W : World} {Q : Exit → Act → World → Prop}
end
/-- The greater of two. -/
def mx (a b : Int) : Int := if a < b then b else a
/-- The smaller of two. -/
def mn (a b : Int) : Int := if b < a then b else a
theorem cell_grown {W w1 : World} {row : Option Nat} (hg : W.grownBy w1 row) {a : Addr} {v : Value} (h : W.cell? a = some v) (hne : some a.block ≠ row) : w1.cell? a = some v := hg.cell h hne
theorem Kd.R_tight {α : Type} {d : Kd α} {e base : Nat} {ok : Nat → Prop} {w : World} {v : Value} {xs : List α} (hE : d.E = []) (h : d.R e w base ok v xs) : d.R e w base (fun k => some k = v.ownBlock) v xs := by
  obtain ⟨h0, inner, ho, hr⟩ := h
  refine ⟨fun k hk => hk.symm, inner, ho, hr.imp_ (fun p c hp => d.M_mono (fun k hk => ?_) (d.M_bound hp))⟩
  obtain ⟨_, _, _, q, hq, _⟩ := hk
  rw [hE] at hq
  cases hq
theorem Kd.R_grown1 {α : Type} {d : Kd α} {e base : Nat} {ok : Nat → Prop} {W w1 : World} {v : Value} {xs : List α} (h : d.R e W base ok v xs) (hE : d.E = []) {row : Option Nat} (hg : W.grownBy w1 row) (hne : row ≠ v.ownBlock) : d.R e w1 base ok v xs := 
  Kd.R_mono (Kd.R_grown (Kd.R_tight hE h) hg (fun _ hk e_ => hne (e_.symm.trans hk))) (fun k hk => h.1 k hk.symm)
end Go.Proofs.YtmnjlnkfihklgaaW.PrintMore
namespace Go.Proofs.Ytmnjlnkfihklgaa.P
open Go.RowKit Go.Proofs.YtmnjlnkfihklgaaW.PrintWords Go.Proofs.YtmnjlnkfihklgaaW.PrintMore
attribute [local go_sem] max2_int min2_int max_two min_two max_three min_three max_four min_four   -- for this text's walks alone
set_option linter.unusedVariables false
set_option linter.unusedSimpArgs false



theorem info3 : (Try.prog.info? 3).map (fun i => (i.zero, i.size, i.bytes)) = some (some (.int .i64 0), 1, 8) := by kernel_rfl
theorem info4 : (Try.prog.info? 4).map (fun i => (i.zero, i.size, i.bytes)) = some (some (.bool false), 1, 1) := by kernel_rfl
theorem info45 : (Try.prog.info? 45).map (fun i => (i.zero, i.size, i.bytes)) = some (some (.agg #[(.int .i64 0), (.int .i64 0), (.int .i64 0), (.int .i64 0)]), 4, 32) := by kernel_rfl
theorem info104 : (Try.prog.info? 104).map (fun i => (i.zero, i.size, i.bytes)) = some (some (.agg #[(.int .i64 0), (.int .i64 0)]), 2, 16) := by kernel_rfl
-- the values' own types
/-! #### struct type 45 -/
structure S45 where
  f0 : Int
  f1 : Int
  f2 : Int
  f3 : Int
def z45 : S45 := ⟨(0 : Int), (0 : Int), (0 : Int), (0 : Int)⟩
def k45 : Kd S45 := Kd.iso (Kd.pair (Kd.int .i64) (Kd.pair (Kd.int .i64) (Kd.pair (Kd.int .i64) (Kd.int .i64)))) (fun x : S45 => (x.f0, x.f1, x.f2, x.f3))
theorem k45_open {w : World} {x : S45} {cs : List Value} (h : k45.K w x cs) : cs = [.int .i64 x.f0, .int .i64 x.f1, .int .i64 x.f2, .int .i64 x.f3] := by
  obtain ⟨_, _, rfl, rfl, ⟨_, _, rfl, rfl, ⟨_, _, rfl, rfl, rfl⟩⟩⟩ := h
  exact rfl
theorem k45_mk (w : World) (x : S45)  : k45.K w x [.int .i64 x.f0, .int .i64 x.f1, .int .i64 x.f2, .int .i64 x.f3] := ⟨[.int .i64 x.f0], [.int .i64 x.f1, .int .i64 x.f2, .int .i64 x.f3], rfl, rfl, ⟨[.int .i64 x.f1], [.int .i64 x.f2, .int .i64 x.f3], rfl, rfl, ⟨[.int .i64 x.f2], [.int .i64 x.f3], rfl, rfl, rfl⟩⟩⟩
theorem k45_mkM (w : World) (base : Nat) (ok : Nat → Prop) (x : S45)  : k45.M w base ok x [.int .i64 x.f0, .int .i64 x.f1, .int .i64 x.f2, .int .i64 x.f3] := ⟨[.int .i64 x.f0], [.int .i64 x.f1, .int .i64 x.f2, .int .i64 x.f3], rfl, rfl, ⟨[.int .i64 x.f1], [.int .i64 x.f2, .int .i64 x.f3], rfl, rfl, ⟨[.int .i64 x.f2], [.int .i64 x.f3], rfl, rfl, rfl⟩⟩⟩
/-! #### struct type 72 -/
structure S72 where
  f0 : Int
  f1 : Int
def z72 : S72 := ⟨(0 : Int), (0 : Int)⟩
def k72 : Kd S72 := Kd.iso (Kd.pair (Kd.int .i64) (Kd.int .i64)) (fun x : S72 => (x.f0, x.f1))
theorem k72_open {w : World} {x : S72} {cs : List Value} (h : k72.K w x cs) : cs = [.int .i64 x.f0, .int .i64 x.f1] := by
  obtain ⟨_, _, rfl, rfl, rfl⟩ := h
  exact rfl
theorem k72_mkM (w : World) (base : Nat) (ok : Nat → Prop) (x : S72)  : k72.M w base ok x [.int .i64 x.f0, .int .i64 x.f1] := ⟨[.int .i64 x.f0], [.int .i64 x.f1], rfl, rfl, rfl⟩
/-! #### struct type 98 -/
structure S98 where
  f0 : Int
  f1 : Int
  f2 : Int
  f3 : S72
def z98 : S98 := ⟨(0 : Int), (0 : Int), (0 : Int), z72⟩
def k98 : Kd S98 := Kd.iso (Kd.pair (Kd.int .i64) (Kd.pair (Kd.int .i64) (Kd.pair (Kd.int .i64) k72))) (fun x : S98 => (x.f0, x.f1, x.f2, x.f3))
theorem k98_open {w : World} {x : S98} {cs : List Value} (h : k98.K w x cs) : cs = [.int .i64 x.f0, .int .i64 x.f1, .int .i64 x.f2, .int .i64 x.f3.f0, .int .i64 x.f3.f1] := by
  obtain ⟨_, _, rfl, rfl, ⟨_, _, rfl, rfl, ⟨_, _, rfl, rfl, s3⟩⟩⟩ := h
  obtain rfl := k72_open s3
  exact rfl
theorem k98_mkM (w : World) (base : Nat) (ok : Nat → Prop) (x : S98)  : k98.M w base ok x [.int .i64 x.f0, .int .i64 x.f1, .int .i64 x.f2, .int .i64 x.f3.f0, .int .i64 x.f3.f1] := ⟨[.int .i64 x.f0], [.int .i64 x.f1, .int .i64 x.f2, .int .i64 x.f3.f0, .int .i64 x.f3.f1], rfl, rfl, ⟨[.int .i64 x.f1], [.int .i64 x.f2, .int .i64 x.f3.f0, .int .i64 x.f3.f1], rfl, rfl, ⟨[.int .i64 x.f2], [.int .i64 x.f3.f0, .int .i64 x.f3.f1], rfl, rfl, (k72_mkM w base ok x.f3 )⟩⟩⟩
/-! #### struct type 104 -/
structure S104 where
  f0 : Int
  f1 : Int
def z104 : S104 := ⟨(0 : Int), (0 : Int)⟩
def k104 : Kd S104 := Kd.iso (Kd.pair (Kd.int .i64) (Kd.int .i64)) (fun x : S104 => (x.f0, x.f1))
theorem k104_open {w : World} {x : S104} {cs : List Value} (h : k104.K w x cs) : cs = [.int .i64 x.f0, .int .i64 x.f1] := by
  obtain ⟨_, _, rfl, rfl, rfl⟩ := h
  exact rfl
theorem k104_mkM (w : World) (base : Nat) (ok : Nat → Prop) (x : S104)  : k104.M w base ok x [.int .i64 x.f0, .int .i64 x.f1] := ⟨[.int .i64 x.f0], [.int .i64 x.f1], rfl, rfl, rfl⟩
/-! #### struct type 35 -/
structure S35 where
  f0 : Int
  f1 : Int
  f2 : Int
def z35 : S35 := ⟨(0 : Int), (0 : Int), (0 : Int)⟩
def k35 : Kd S35 := Kd.iso (Kd.pair (Kd.int .i64) (Kd.pair (Kd.int .i64) (Kd.int .i64))) (fun x : S35 => (x.f0, x.f1, x.f2))
theorem k35_open {w : World} {x : S35} {cs : List Value} (h : k35.K w x cs) : cs = [.int .i64 x.f0, .int .i64 x.f1, .int .i64 x.f2] := by
  obtain ⟨_, _, rfl, rfl, ⟨_, _, rfl, rfl, rfl⟩⟩ := h
  exact rfl
theorem k35_mk (w : World) (x : S35)  : k35.K w x [.int .i64 x.f0, .int .i64 x.f1, .int .i64 x.f2] := ⟨[.int .i64 x.f0], [.int .i64 x.f1, .int .i64 x.f2], rfl, rfl, ⟨[.int .i64 x.f1], [.int .i64 x.f2], rfl, rfl, rfl⟩⟩
/-! #### struct type 95 -/
structure S95 where
  f0 : Int
  f1 : Int
  f2 : Int
end Go.Proofs.Ytmnjlnkfihklgaa.P
namespace Go.Proofs.Ytmnjlnkfihklgaa.E
open Go.RowKit Go.Proofs.YtmnjlnkfihklgaaW.PrintWords Go.Proofs.YtmnjlnkfihklgaaW.PrintMore
set_option linter.unusedVariables false
abbrev Env := List (Nat × Value)
noncomputable def look (env : Env) (n : Nat) : Option Value :=
  List.rec (motive := fun _ => Option Value) none (fun kv _ ih => Prod.rec (motive := fun _ => Option Value) (fun k v => bif Nat.beq k n then some v else ih) kv) env
theorem look_nil (n : Nat) : look [] n = none := rfl
theorem look_cons (k : Nat) (v : Value) (r : Env) (n : Nat) : look ((k, v) :: r) n = bif Nat.beq k n then some v else look r n := rfl
/-- What is known of a frame of so many slots. -/
structure Holds (N : Nat) (a : Act) (env : Env) : Prop where
  size : a.tmps.size = N
  defers : a.defers = []
  get : ∀ n v, look env n = some v → a.tmps[n]? = some v
theorem Holds.put {N : Nat} {a : Act} {env : Env} (h : Holds N a env) {n : Nat} (v : Value) (hn : n < N) : Holds N (a.put (some n) v) ((n, v) :: env) := by
  refine ⟨by simp [Act.put, h.size], by simp [Act.put, h.defers], fun m u hm => ?_⟩
  rw [look_cons] at hm
  by_cases hk : n = m
  · subst hk
    simp only [Nat.beq_refl, cond_true, Option.some.injEq] at hm
    subst hm
    simp [Act.put, h.size, hn]
  · have : Nat.beq n m = false := by
      rw [← Bool.not_eq_true, Nat.beq_eq]
      exact hk
    rw [this] at hm
    simp only [cond_false] at hm
    have := h.get m u hm
    simp [Act.put, hk, this]
def Sub : Env → Env → Prop
  | [], _ => True
  | (k, v) :: r, env => look env k = some v ∧ Sub r env
theorem Sub.look : ∀ {e env : Env}, Sub e env → ∀ n v, E.look e n = some v → E.look env n = some v
  | [], _, _, n, v, h => by simp [look_nil] at h
  | (k, u) :: r, env, hs, n, v, h => by
    rw [look_cons] at h
    by_cases hk : k = n
    · subst hk
      simp only [Nat.beq_refl, cond_true, Option.some.injEq] at h
      subst h
      exact hs.1
    · have : Nat.beq k n = false := by
        rw [← Bool.not_eq_true, Nat.beq_eq]
        exact hk
      rw [this] at h
      simp only [cond_false] at h
      exact Sub.look hs.2 n v h
theorem Holds.sub {N : Nat} {a : Act} {env e : Env} (h : Holds N a env) (hs : Sub e env) : Holds N a e := ⟨h.size, h.defers, fun n v hn => h.get n v (hs.look n v hn)⟩
/-- An operand's value, as it is known. -/
def Ev (env : Env) : Operand → Value → Prop
  | .tmp n, v => look env n = some v
  | .const c, v => c = v
  | .func f, v => Value.func (.func f) #[] #[] = v
  | .global g, v => Value.pointer (some ⟨g, 0, none⟩) = v
theorem Holds.eval {N : Nat} {a : Act} {env : Env} (h : Holds N a env) {x : Operand} {v : Value} (e : Ev env x v) : a.eval x = v := by
  cases x with
  | tmp n =>
    have := h.get n v e
    show a.tmps.getD n undef = v
    rw [Array.getD_eq_getD_getElem?, this]
    rfl
  | const c => exact e
  | func f => exact e
  | global g => exact e
/-- An operation reads, and leaves this value. -/
def Runs (P : Program) (N : Nat) (env : Env) (o : Oper) (w : World) (v : Value) : Prop :=
  ∀ a w', Holds N a env → w'.heap = w.heap → (execOp a.eval o).run P w' = .ok (.value v) w'
/-- Whether an operation is wanted, as it is known. -/
noncomputable def want (ops : Array Oper) (env : Env) (o : Oper) : Option Bool :=
  match o.guard with
  | none => some true
  | some (j, b) => match (ops[j]?).bind (·.dst) with
    | some d => match look env d with
      | some (.bool c) => some (c == b)
      | some _ => some false
      | none => none
    | none => none
theorem wanted_of {N : Nat} {a : Act} {env : Env} (h : Holds N a env) {ops : Array Oper} {o : Oper} {t : Bool} (hw : want ops env o = some t) : Region.wanted o (yielded ops a.tmps) = t := by
  unfold want at hw
  unfold Region.wanted
  cases hg : o.guard with
  | none => simpa [hg] using hw
  | some p =>
    obtain ⟨j, b⟩ := p
    simp only [hg] at hw ⊢
    unfold yielded
    cases hd : (ops[j]?).bind (·.dst) with
    | none => simp [hd] at hw
    | some d =>
      simp only [hd] at hw
      simp only [Option.bind_some]
      cases hl : look env d with
      | none => simp [hl] at hw
      | some v =>
        rw [h.get d _ hl]
        cases v <;> simp only [hl, Option.some.injEq] at hw <;> subst hw <;> first | rfl | (rename_i c; cases c <;> cases b <;> rfl)
/-! ### Regions -/
def GQ (P : Program) (ops : Array Oper) (Q : Exit → Act → World → Prop) (N : Nat) (w : World) (rest : List Oper) (env : Env) : Prop :=
  ∀ a, Holds N a env → wpQuiet P ops (fun w' => ∃ n, w' = w.drewN n) (fun a' => ∀ w', (∃ n, w' = w.drewN n) → Q .normal a' w') rest a
def GL (P : Program) (ops : Array Oper) (Q : Exit → Act → World → Prop) (N : Nat) (w : World) (rest : List Oper) (env : Env) : Prop :=
  ∀ a, Holds N a env → wpList P ops Q rest a w
/-- What is asked at an exit, of a frame that is known so far. -/
def QG (Q : Exit → Act → World → Prop) (e : Exit) (N : Nat) (env : Env) (w : World) : Prop := ∀ a, Holds N a env → Q e a w
def CG (P : Program) (c : Code) (Q : Exit → Act → World → Prop) (N : Nat) (env : Env) (w : World) : Prop := ∀ a, Holds N a env → c.wp P Q a w
section
variable {P : Program} {ops : Array Oper} {Q : Exit → Act → World → Prop} {N : Nat} {w : World} {rest : List Oper} {env : Env} {o : Oper}
theorem heap_drewN (w : World) (n : Nat) : (w.drewN n).heap = w.heap := rfl
theorem GQ.run {n : Nat} {v : Value} (hd : o.dst = some n) (hn : Nat.blt n N = true) (hw : want ops env o = some true) (hr : Runs P N env o w v) (h : GQ P ops Q N w rest ((n, v) :: env)) : GQ P ops Q N w (o :: rest) env := by
  intro a ha
  refine BigFrame.wpQuiet_want (wanted_of ha hw) fun K hK => ⟨v, fun w' hw' => ?_, ?_⟩
  · obtain ⟨m, rfl⟩ := hw'
    unfold Oper.quietAt
    rw [hr a _ ha (heap_drewN w m)]
    exact ⟨rfl, rfl⟩
  · rw [hd]
    exact hK _ (h _ (ha.put v (by simpa [Nat.blt_eq] using hn)))
theorem GQ.skip {n : Nat} (hd : o.dst = some n) (hn : Nat.blt n N = true) (hw : want ops env o = some false) (h : GQ P ops Q N w rest ((n, undef) :: env)) : GQ P ops Q N w (o :: rest) env := by
  intro a ha
  refine BigFrame.wpQuiet_skip (wanted_of ha hw) ?_
  rw [hd]
  exact h _ (ha.put undef (by simpa [Nat.blt_eq] using hn))
theorem GQ.done (h : ∀ m, QG Q .normal N env (w.drewN m)) : GQ P ops Q N w [] env := by
  intro a ha
  refine wpQuiet_nil ?_
  rintro w' ⟨m, rfl⟩
  exact h m a ha
theorem GL.run {n : Nat} {v : Value} (hd : o.dst = some n) (hn : Nat.blt n N = true) (hw : want ops env o = some true) (hr : Runs P N env o w v) (h : GL P ops Q N w rest ((n, v) :: env)) : GL P ops Q N w (o :: rest) env := by
  intro a ha
  refine BigFrame.wpList_want (wanted_of ha hw) fun K hK => ?_
  unfold Oper.wp
  rw [hr a w ha rfl]
  show K (a.put o.dst v) w
  rw [hd]
  exact hK _ _ (h _ (ha.put v (by simpa [Nat.blt_eq] using hn)))
theorem GL.skip {n : Nat} (hd : o.dst = some n) (hn : Nat.blt n N = true) (hw : want ops env o = some false) (h : GL P ops Q N w rest ((n, undef) :: env)) : GL P ops Q N w (o :: rest) env := by
  intro a ha
  refine wpList_skip (wanted_of ha hw) ?_
  rw [hd]
  exact h _ (ha.put undef (by simpa [Nat.blt_eq] using hn))
theorem GL.done (h : QG Q .normal N env w) : GL P ops Q N w [] env := fun a ha => wpList_nil (h a ha)
/-- Any law of the kit's that makes one step. -/
theorem GL.step {n : Nat} (hd : o.dst = some n) (hn : Nat.blt n N = true) (hs : ∀ a, Holds N a env → (∀ v w1, GL P ops Q N w1 rest ((n, v) :: env) → wpList P ops Q rest (a.put o.dst v) w1) → wpList P ops Q (o :: rest) a w) : GL P ops Q N w (o :: rest) env := by
  intro a ha
  refine hs a ha fun v w1 h => ?_
  rw [hd]
  exact h _ (ha.put v (by simpa [Nat.blt_eq] using hn))
/-! ### Code -/
theorem CG.seq {x y : Code} (h : CG P x (Exit.then (y.wp P Q) Q) N env w) : CG P (.seq x y) Q N env w := fun a ha => wp_seq (h a ha)
theorem CG.cond_t {c : Operand} {x y : Code} (hc : Ev env c (.bool true)) (h : CG P x Q N env w) : CG P (.cond c x y) Q N env w := fun a ha => wp_cond_true (ha.eval hc) (h a ha)
theorem CG.cond_f {c : Operand} {x y : Code} (hc : Ev env c (.bool false)) (h : CG P y Q N env w) : CG P (.cond c x y) Q N env w := fun a ha => wp_cond_false (ha.eval hc) (h a ha)
theorem CG.block {id : Nat} {c : Code} (h : CG P c (Exit.inBlock id Q) N env w) : CG P (.block id c) Q N env w := fun a ha => wp_block (h a ha)
theorem CG.skip (h : QG Q .normal N env w) : CG P .skip Q N env w := fun a ha => wp_skip (h a ha)
theorem CG.exit {id : Nat} (h : QG Q (.exit id) N env w) : CG P (.exit id) Q N env w := fun a ha => wp_exit (h a ha)
theorem CG.ret (h : QG Q .ret N env w) : CG P .ret Q N env w := fun a ha => wp_ret (h a ha)
theorem CG.quiet {id : Nat} {l : List Oper} (hm : P.follows .mixedOrders = true) (hB : Region.lexB .any l.toArray = true) (h : GQ P l.toArray Q N w l env) : CG P (.region id l.toArray true) Q N env w :=
  fun a ha => wp_region_quiet_lit hm hB (h a ha)
theorem CG.list {id : Nat} {l : List Oper} (h : GL P l.toArray Q N w l env) : CG P (.region id l.toArray false) Q N env w := by
  intro a ha
  refine wp_region ?_
  have := wpOps_eq_wpList (P := P) (ops := l.toArray) (Q := Q) l 0 (fun j => by simp)
  rw [List.range_eq_range']
  simp only [List.size_toArray]
  rw [this]
  exact h a ha
theorem CG.loop {c : Code} {γ : Type} (E : γ → Env) (R : γ → World → Prop) (m : γ → Nat) (g0 : γ) (h0 : Sub (E g0) env) (hR : R g0 w)
    (round : ∀ g w', R g w' → CG P c (Exit.then (fun a'' w'' => ∃ g', Holds N a'' (E g') ∧ R g' w'' ∧ m g' < m g) Q) N (E g) w') : CG P (.loop c) Q N env w := by
  intro a ha
  refine wp_loop_ghost (fun n a w => ∃ g, m g = n ∧ Holds N a (E g) ∧ R g w) (m g0) ⟨g0, rfl, ha.sub h0, hR⟩ ?_
  rintro n a1 w1 ⟨g, rfl, hh, hr⟩
  refine wp_mono (round g w1 hr a1 hh) ?_
  intro e a' w' hq
  cases e <;> first | exact hq | (obtain ⟨g', h1, h2, h3⟩ := hq; exact ⟨_, h3, g', rfl, h1, h2⟩)
/-! ### Exits -/
theorem QG.code {y : Code} {Q' : Exit → Act → World → Prop} (h : CG P y Q' N env w) : QG (Exit.then (y.wp P Q') Q) .normal N env w := h
theorem QG.round {γ : Type} {E : γ → Env} {R : γ → World → Prop} {m : γ → Nat} {g : γ} (g' : γ) (h0 : Sub (E g') env) (hR : R g' w) (hm : m g' < m g) :
    QG (Exit.then (fun a'' w'' => ∃ g', Holds N a'' (E g') ∧ R g' w'' ∧ m g' < m g) Q) .normal N env w := fun a ha => ⟨g', ha.sub h0, hR, hm⟩
theorem QG.pass_exit {K : Act → World → Prop} {id : Nat} (h : QG Q (.exit id) N env w) : QG (Exit.then K Q) (.exit id) N env w := h
theorem QG.pass_ret {K : Act → World → Prop} (h : QG Q .ret N env w) : QG (Exit.then K Q) .ret N env w := h
theorem QG.block_normal {id : Nat} (h : QG Q .normal N env w) : QG (Exit.inBlock id Q) .normal N env w := h
theorem QG.block_ret {id : Nat} (h : QG Q .ret N env w) : QG (Exit.inBlock id Q) .ret N env w := h
theorem QG.block_here {id : Nat} (h : QG Q .normal N env w) : QG (Exit.inBlock id Q) (.exit id) N env w := fun a ha => by
  have := h a ha
  simpa [Exit.inBlock] using this
theorem QG.result {fn : Func} {R : Ending → World → Prop} {t : Tmp} {v : Value} (hf : fn.results = #[.tmp t]) (hv : look env t = some v) (h : R (.returned v) w) : QG (bodyPost P fn R) .ret N env w := by
  intro a ha
  refine ⟨ha.defers, v, ?_, h⟩
  rw [results_tmp hf]
  have := ha.eval (x := .tmp t) (v := v) hv
  exact congrArg (fun x => Result.ok x w) this
/-! ### What operations leave -/
theorem Runs.move {x : Operand} {v : Value} (ho : o.op = .move x) (hx : Ev env x v) : Runs P N env o w v := fun a w' ha _ => by rw [BigFrame.run_move x ho, ha.eval hx]
theorem Runs.assign {x : Operand} {v : Value} (ho : o.op = .assign x) (hx : Ev env x v) : Runs P N env o w v := fun a w' ha _ => by rw [BigFrame.run_assign x ho, ha.eval hx]
theorem Runs.pick_t {c x y : Operand} {v : Value} (ho : o.op = .pick c x y) (hc : Ev env c (.bool true)) (hx : Ev env x v) : Runs P N env o w v := fun a w' ha _ => by
  unfold execOp; rw [ho]; simp only []; rw [ha.eval hc, ha.eval hx]; rfl
theorem Runs.pick_f {c x y : Operand} {v : Value} (ho : o.op = .pick c x y) (hc : Ev env c (.bool false)) (hy : Ev env y v) : Runs P N env o w v := fun a w' ha _ => by
  unfold execOp; rw [ho]; simp only []; rw [ha.eval hc, ha.eval hy]; rfl
theorem cell_heap {w w' : World} (h : w'.heap = w.heap) (p : Addr) : w'.cell? p = w.cell? p := by unfold World.cell?; rw [h]
theorem Runs.load {t : TypeId} {x : Operand} {p : Addr} {k : IntKind} {v : Value} (ho : o.op = .load t x) (hx : Ev env x (.pointer (some p))) (hu : P.underlying t = some (.int k)) (hc : w.cell? p = some v) : Runs P N env o w v := fun a w' ha hw => by
  have hc' : w'.cell? p = some v := (cell_heap hw p).trans hc
  unfold execOp; rw [ho]; simp only []; rw [ha.eval hx]
  simp [go_sem, isAgg, run_underlying hu, hc']
theorem Runs.lss {t u : TypeId} {x y : Operand} {k : IntKind} {m n : Int} {b : Bool} (ho : o.op = .binOp .lss t x y u) (hx : Ev env x (.int k m)) (hy : Ev env y (.int k n)) (hb : (decide (m < n)) = b) : Runs P N env o w (.bool b) := fun a w' ha hw => by
  unfold execOp; rw [ho]; simp only []; rw [ha.eval hx, ha.eval hy]
  subst hb
  simp [go_sem]
theorem Runs.gtr {t u : TypeId} {x y : Operand} {k : IntKind} {m n : Int} {b : Bool} (ho : o.op = .binOp .gtr t x y u) (hx : Ev env x (.int k m)) (hy : Ev env y (.int k n)) (hb : (decide (n < m)) = b) : Runs P N env o w (.bool b) := fun a w' ha hw => by
  unfold execOp; rw [ho]; simp only []; rw [ha.eval hx, ha.eval hy]
  subst hb
  simp [go_sem]
theorem Runs.leq {t u : TypeId} {x y : Operand} {k : IntKind} {m n : Int} {b : Bool} (ho : o.op = .binOp .leq t x y u) (hx : Ev env x (.int k m)) (hy : Ev env y (.int k n)) (hb : (decide (m ≤ n)) = b) : Runs P N env o w (.bool b) := fun a w' ha hw => by
  unfold execOp; rw [ho]; simp only []; rw [ha.eval hx, ha.eval hy]
  subst hb
  simp [go_sem]
theorem Runs.geq {t u : TypeId} {x y : Operand} {k : IntKind} {m n : Int} {b : Bool} (ho : o.op = .binOp .geq t x y u) (hx : Ev env x (.int k m)) (hy : Ev env y (.int k n)) (hb : (decide (n ≤ m)) = b) : Runs P N env o w (.bool b) := fun a w' ha hw => by
  unfold execOp; rw [ho]; simp only []; rw [ha.eval hx, ha.eval hy]
  subst hb
  simp [go_sem]
theorem Runs.eql {t u : TypeId} {x y : Operand} {k : IntKind} {m n : Int} {b : Bool} (ho : o.op = .binOp .eql t x y u) (hx : Ev env x (.int k m)) (hy : Ev env y (.int k n)) (hb : (decide (m = n)) = b) : Runs P N env o w (.bool b) := fun a w' ha hw => by
  unfold execOp; rw [ho]; simp only []; rw [ha.eval hx, ha.eval hy]
  subst hb
  simp [go_sem]
  try rfl
theorem Runs.neq {t u : TypeId} {x y : Operand} {k : IntKind} {m n : Int} {b : Bool} (ho : o.op = .binOp .neq t x y u) (hx : Ev env x (.int k m)) (hy : Ev env y (.int k n)) (hb : (!decide (m = n)) = b) : Runs P N env o w (.bool b) := fun a w' ha hw => by
  unfold execOp; rw [ho]; simp only []; rw [ha.eval hx, ha.eval hy]
  subst hb
  simp [go_sem]
  try rfl
theorem Runs.add {t u : TypeId} {x y : Operand} {k : IntKind} {m n r : Int} (ho : o.op = .binOp .add t x y u) (hx : Ev env x (.int k m)) (hy : Ev env y (.int k n)) (hb : k.wrap (m + n) = r) : Runs P N env o w (.int k r) := fun a w' ha hw => by
  unfold execOp; rw [ho]; simp only []; rw [ha.eval hx, ha.eval hy]
  subst hb
  simp [go_sem]
theorem Runs.sub {t u : TypeId} {x y : Operand} {k : IntKind} {m n r : Int} (ho : o.op = .binOp .sub t x y u) (hx : Ev env x (.int k m)) (hy : Ev env y (.int k n)) (hb : k.wrap (m - n) = r) : Runs P N env o w (.int k r) := fun a w' ha hw => by
  unfold execOp; rw [ho]; simp only []; rw [ha.eval hx, ha.eval hy]
  subst hb
  simp [go_sem]
theorem Runs.mul {t u : TypeId} {x y : Operand} {k : IntKind} {m n r : Int} (ho : o.op = .binOp .mul t x y u) (hx : Ev env x (.int k m)) (hy : Ev env y (.int k n)) (hb : k.wrap (m * n) = r) : Runs P N env o w (.int k r) := fun a w' ha hw => by
  unfold execOp; rw [ho]; simp only []; rw [ha.eval hx, ha.eval hy]
  subst hb
  simp [go_sem]
theorem Runs.not {t : TypeId} {x : Operand} {b : Bool} (ho : o.op = .unOp .not t x) (hx : Ev env x (.bool b)) : Runs P N env o w (.bool (!b)) := fun a w' ha hw => by
  unfold execOp; rw [ho]; simp only []; rw [ha.eval hx]
  simp [go_sem]
theorem Runs.extract {x : Operand} {i : Nat} {cs : Array Value} {v : Value} (ho : o.op = .extract x i) (hx : Ev env x (.tuple cs)) (hv : cs[i]? = some v) : Runs P N env o w v := fun a w' ha hw => by
  unfold execOp; rw [ho]; simp only []; rw [ha.eval hx]
  simp [go_sem, hv]
/-- An address, so many cells on. -/
def onA (p : Addr) : Nat → Addr
  | 0 => p
  | n + 1 => ⟨p.block, p.off + (n + 1), none⟩
theorem add_onA (p : Addr) : ∀ n, p.add n = onA p n
  | 0 => rfl
  | n + 1 => by simp [Addr.add, onA]
/-- A type whose values have a size. -/
def Sized (P : Program) (t : TypeId) : Prop := ∃ inf, P.info? t = some inf ∧ P.cellsOf t ≠ 0
theorem Runs.fieldAddr {t : TypeId} {x : Operand} {i : Nat} {p q : Addr} {fs : Array Field} {f : Field} (ho : o.op = .fieldAddr t x i) (hx : Ev env x (.pointer (some p))) (hu : P.underlying t = some (.struct fs)) (hf : fs[i]? = some f) (hz : Sized P f.type) (hq : onA p f.offset = q) : Runs P N env o w (.pointer (some q)) := fun a w' ha hw => by
  obtain ⟨inf, h1, h2⟩ := hz
  unfold execOp; rw [ho]; simp only []; rw [ha.eval hx]
  rw [← hq, ← add_onA]
  simp [go_sem, run_underlying hu, hf, run_sizeOf w' h1, h2]
theorem Runs.indexAddr {t e : TypeId} {x y : Operand} {p : Addr} {n c : Nat} {k : IntKind} {i : Nat} {sz : Nat} {q : Addr} (ho : o.op = .indexAddr t x y) (hx : Ev env x (.slice (some p) n c)) (hy : Ev env y (.int k i)) (hu : P.underlying t = some (.slice e)) (hz : Sized P e) (hs : P.cellsOf e = sz) (hl : (i : Int) < n) (hq : p.add (i * sz) = q) : Runs P N env o w (.pointer (some q)) := fun a w' ha hw => by
  obtain ⟨inf, h1, h2⟩ := hz
  unfold execOp; rw [ho]; simp only []; rw [ha.eval hx, ha.eval hy]
  subst hq hs
  have h3 : i < n := by omega
  simp [Instr.indexAt, asIntOf, run_underlying hu, run_sizeOf w' h1, h3]
theorem Runs.len {x : Operand} {t e : TypeId} {p : Option Addr} {n c : Nat} (ho : o.op = .call { callee := .builtin .len, args := #[x], argTypes := #[t] }) (hx : Ev env x (.slice p n c)) (hu : P.underlying t = some (.slice e)) : Runs P N env o w (.int .i64 n) := fun a w' ha hw => by
  have e := ha.eval hx
  generalize a.eval = ρ at e ⊢
  unfold execOp; rw [ho]
  simp [go_sem, e, Builtin.len_, run_underlying hu]
end
end Go.Proofs.Ytmnjlnkfihklgaa.E
namespace Go.Proofs.Ytmnjlnkfihklgaa.T
open Go.RowKit Go.Proofs.YtmnjlnkfihklgaaW.PrintWords Go.Proofs.YtmnjlnkfihklgaaW.PrintMore
open Go.Proofs.Ytmnjlnkfihklgaa.P
set_option linter.unusedVariables false
theorem gb_set {w W : World} {row : Option Nat} (h : w.grownBy W row) {a : Addr} (ha : w.heap.size ≤ a.block ∨ some a.block = row) (v : Value) : w.grownBy (W.setCell a v) row := by
  refine ⟨h.os, h.tape, h.output, by simpa [World.setCell] using h.size, fun k hk hr => (Below.heap_setCell W a v k ?_).trans (h.block k hk hr)⟩
  rcases ha with ha | ha
  · omega
  · rintro rfl
    exact hr ha
section
variable {P : Program} {ops : Array Oper} {rest : List Oper} {op : Oper} {a : Act} {w : World} {Q : Exit → Act → World → Prop}
theorem setCells_block {b : Nat} {t : TypeId} : ∀ (vs pre old : List Value) (w : World), w.heap[b]? = some (.cells (pre ++ old).toArray t (0, 0)) → old.length = vs.length →
    (w.setCells b pre.length vs).heap[b]? = some (.cells (pre ++ vs).toArray t (0, 0)) ∧ w.grownBy (w.setCells b pre.length vs) (some b)
  | [], pre, old, w, h, hl => by
    obtain rfl : old = [] := List.eq_nil_of_length_eq_zero hl
    exact ⟨h, World.grownBy.refl _ _⟩
  | v :: vs, pre, [], w, h, hl => by simp at hl
  | v :: vs, pre, o :: old, w, h, hl => by
    have h1 : (w.setCell ⟨b, pre.length, none⟩ v).heap[b]? = some (.cells ((pre ++ [v]) ++ old).toArray t (0, 0)) := by
      rw [blk_set h]
      congr 1
      simp
    have h2 := setCells_block vs (pre ++ [v]) old _ h1 (by simpa using hl)
    rw [List.length_append, List.length_singleton] at h2
    refine ⟨?_, ?_⟩
    · have := h2.1
      rw [List.append_assoc] at this
      exact this
    · exact (gb_set (World.grownBy.refl w _) (.inr rfl) v).trans h2.2
/-- A whole variable is stored over a block of its size. -/
theorem store_whole (hgd : op.guard = none) (ty : TypeId) (x y : Operand) (ho : op.op = .store ty x y) (b : Nat) (cells old : Array Value) (t : TypeId)
    (hx : a.eval x = .pointer (some ⟨b, 0, none⟩)) (hy : a.eval y = .agg cells) (hb : w.heap[b]? = some (.cells old t (0, 0))) (hs : old.size = cells.size)
    (hi : (P.info? ty).map (·.size) = some cells.size) (h1 : cells.all (·.oneCell') = true)
    (h : ∀ w1, w1.heap[b]? = some (.cells cells t (0, 0)) → w.grownBy w1 (some b) → wpList P ops Q rest (a.put op.dst undef) w1) : wpList P ops Q (op :: rest) a w := by
  have hk := setCells_block (b := b) (t := t) cells.toList [] old.toList w (by simpa using hb) (by simpa using hs)
  refine wpList_store_mid hgd ty x y ho b 0 cells hx hy ?_ hi h1 (h _ (by simpa using hk.1) hk.2)
  intro j hj
  constructor
  · rw [blk_cell hb, Nat.zero_add, Array.getElem?_eq_getElem (by omega)]
    rfl
  · exact blk_frozen hb _
end
end Go.Proofs.Ytmnjlnkfihklgaa.T
namespace Go.Proofs.Ytmnjlnkfihklgaa.E
open Go.RowKit Go.Proofs.YtmnjlnkfihklgaaW.PrintWords Go.Proofs.YtmnjlnkfihklgaaW.PrintMore
open Go.Proofs.Ytmnjlnkfihklgaa.T
set_option linter.unusedVariables false
def argEnv : Nat → List Value → Env
  | _, [] => []
  | k, v :: r => (k, v) :: argEnv (k + 1) r
theorem look_argEnv : ∀ (l : List Value) (k n : Nat) (v : Value), look (argEnv k l) n = some v → k ≤ n ∧ l[n - k]? = some v
  | [], k, n, v, h => by simp [argEnv, look_nil] at h
  | u :: r, k, n, v, h => by
    unfold argEnv at h
    rw [look_cons] at h
    by_cases hk : k = n
    · subst hk
      simp only [Nat.beq_refl, cond_true, Option.some.injEq] at h
      subst h
      exact ⟨Nat.le_refl _, by simp⟩
    · have : Nat.beq k n = false := by
        rw [← Bool.not_eq_true, Nat.beq_eq]
        exact hk
      rw [this] at h
      simp only [cond_false] at h
      obtain ⟨h1, h2⟩ := look_argEnv r (k + 1) n v h
      refine ⟨by omega, ?_⟩
      rw [show n - k = (n - (k + 1)) + 1 by omega]
      simpa using h2
section
variable {P : Program} {ops : Array Oper} {Q : Exit → Act → World → Prop} {N : Nat} {w : World} {rest : List Oper} {env : Env} {o : Oper}
theorem enter {f : FuncId} {fn : Func} {c : Code} {args : List Value} {R : Ending → World → Prop} (hf : P.funcs[f]? = some fn) (hb : fn.body = some c) (hn : fn.ntmps = N) (hl : args.length ≤ N) (h : CG P c (bodyPost P fn R) N (argEnv 0 args) w) : Calls P f args.toArray w R := by
  refine calls_of_wp hf hb (h _ ⟨?_, rfl, ?_⟩)
  · simp [hn]; omega
  · intro n v hv
    obtain ⟨_, h2⟩ := look_argEnv args 0 n v hv
    have hlt := (List.getElem?_eq_some_iff.1 h2).1
    simp only [Nat.sub_zero] at h2 hlt
    show (args.toArray ++ Array.replicate _ undef)[n]? = some v
    rw [Array.getElem?_append_left (by simpa using hlt)]
    simpa using h2
/-- A whole struct is read. -/
theorem Runs.loads {t : TypeId} {x : Operand} {p : Addr} {cs : List Value} {d : TypeDesc} (ho : o.op = .load t x) (hx : Ev env x (.pointer (some p))) (hu : P.underlying t = some d) (hd : d.isRow = true) (hi : (P.info? t).map (·.size) = some cs.length) (hc : ∀ j v, cs[j]? = some v → w.cell? (p.add j) = some v) : Runs P N env o w (.agg cs.toArray) := fun a w' ha hw => by
  have hl : (loadCells p cs.length).run P w' = .ok cs.toArray w' := run_loadCells_list (P := P) w' p cs (fun j v hv => (cell_heap hw _).trans (hc j v hv))
  unfold execOp; rw [ho]; simp only []; rw [ha.eval hx]
  cases hq : P.info? t with
  | none => simp [hq] at hi
  | some i =>
    have hs : i.size = cs.length := by simpa [hq] using hi
    have hagg : (isAgg t).run P w' = .ok true w' := by
      unfold isAgg
      rw [Sem.run_bind, run_underlying hu w']
      cases d <;> simp_all
    simp [Instr.loadAt, Instr.sureAddr, loadVar, Sem.run_bind, hagg, sizeOf, typeInfo, hq, hs, hl]
theorem GL.event {n : Nat} {v : Value} {w1 : World} (hd : o.dst = some n) (hn : Nat.blt n N = true) (hw : want ops env o = some true) (hr : ∀ a, Holds N a env → (execOp a.eval o).run P w = .ok (.value v) w1) (h : GL P ops Q N w1 rest ((n, v) :: env)) : GL P ops Q N w (o :: rest) env := by
  intro a ha
  refine BigFrame.wpList_want (wanted_of ha hw) fun K hK => ?_
  unfold Oper.wp
  rw [hr a ha]
  show K (a.put o.dst v) w1
  rw [hd]
  exact hK _ _ (h _ (ha.put v (by simpa [Nat.blt_eq] using hn)))
/-- A new variable that holds a value. -/
theorem GL.box {n : Nat} {t : TypeId} {x : Operand} {cs : Array Value} (hd : o.dst = some n) (hn : Nat.blt n N = true) (hw : want ops env o = some true) (ho : o.op = .box t x) (hx : Ev env x (.agg cs))
    (h : ∀ g w1, g = w.heap.size → w1.heap[g]? = some (.cells cs t (0, 0)) → Below w.heap.size w w1 → GL P ops Q N w1 rest ((n, .pointer (some ⟨g, 0, none⟩)) :: env)) : GL P ops Q N w (o :: rest) env := by
  refine GL.event hd hn hw (v := .pointer (some ⟨w.heap.size, 0, none⟩)) (w1 := w.alloc (.cells cs t (0, 0))) (fun a ha => ?_) (h _ _ rfl (blk_new w _) (below_alloc (Below.refl _ _) _))
  unfold execOp; rw [ho]; simp only []; rw [ha.eval hx]
  simp [go_sem]
/-- A new variable that holds its type's zero. -/
theorem GL.alloc {n : Nat} {t : TypeId} {cs : Array Value} (hd : o.dst = some n) (hn : Nat.blt n N = true) (hw : want ops env o = some true) (ho : o.op = .alloc t) (hz : (P.info? t).map (·.zero) = some (some (.agg cs)))
    (h : ∀ g w1, g = w.heap.size → w1.heap[g]? = some (.cells cs t (0, 0)) → Below w.heap.size w w1 → GL P ops Q N w1 rest ((n, .pointer (some ⟨g, 0, none⟩)) :: env)) : GL P ops Q N w (o :: rest) env := by
  refine GL.event hd hn hw (v := .pointer (some ⟨w.heap.size, 0, none⟩)) (w1 := w.alloc (.cells cs t (0, 0))) (fun a ha => ?_) (h _ _ rfl (blk_new w _) (below_alloc (Below.refl _ _) _))
  cases hq : P.info? t with
  | none => simp [hq] at hz
  | some i =>
    have hi : i.zero = some (.agg cs) := by simpa [hq] using hz
    unfold execOp; rw [ho]; simp only []
    simp [go_sem, zeroValue, typeInfo, hq, hi]
/-- A whole struct is written into a variable of its own. -/
theorem GL.store_whole {ty : TypeId} {x y : Operand} {b : Nat} {cells old : Array Value} {t : TypeId} (hd : o.dst = none) (hg : o.guard = none) (ho : o.op = .store ty x y) (hx : Ev env x (.pointer (some ⟨b, 0, none⟩))) (hy : Ev env y (.agg cells))
    (hb : w.heap[b]? = some (.cells old t (0, 0))) (hs : old.size = cells.size) (hi : (P.info? ty).map (·.size) = some cells.size) (h1 : cells.all (·.oneCell') = true)
    (h : ∀ w1, w1.heap[b]? = some (.cells cells t (0, 0)) → w.grownBy w1 (some b) → GL P ops Q N w1 rest env) : GL P ops Q N w (o :: rest) env := by
  intro a ha
  refine T.store_whole hg ty x y ho b cells old t (ha.eval hx) (ha.eval hy) hb hs hi h1 fun w1 h2 h3 => ?_
  rw [hd]
  exact h w1 h2 h3 a ha
/-- One cell is written. -/
theorem GL.store {ty : TypeId} {x y : Operand} {b i : Nat} {v : Value} {k : IntKind} {n : Int} {cs : Array Value} {t : TypeId} (hd : o.dst = none) (hg : want ops env o = some true) (ho : o.op = .store ty x y) (hz : Sized P ty) (hz1 : P.cellsOf ty = 1) (hx : Ev env x (.pointer (some ⟨b, i, none⟩))) (hy : Ev env y (.int k n))
    (hb : w.heap[b]? = some (.cells cs t (0, 0))) (hi : i < cs.size) (h : GL P ops Q N (w.setCell ⟨b, i, none⟩ (.int k n)) rest env) : GL P ops Q N w (o :: rest) env := by
  intro a ha
  have h1 : w.cell? ⟨b, i, none⟩ = some cs[i] := by rw [blk_cell hb, Array.getElem?_eq_getElem hi]
  have h2 : w.frozen? ⟨b, i, none⟩ = false := blk_frozen hb i
  refine BigFrame.wpList_want (wanted_of ha hg) fun K hK => ?_
  have hr : (execOp a.eval o).run P w = .ok .skip (w.setCell ⟨b, i, none⟩ (.int k n)) := by
    unfold execOp; rw [ho]; simp only []; rw [ha.eval hx, ha.eval hy]
    obtain ⟨inf, q1, q2⟩ := hz
    simp [go_sem, run_sizeOf w q1, hz1, h1, h2]
  unfold Oper.wp
  rw [hr]
  show K (a.put o.dst undef) _
  rw [hd]
  exact hK _ _ (h a ha)
def EvL (env : Env) : List Operand → List Value → Prop
  | [], [] => True
  | x :: xs, v :: vs => Ev env x v ∧ EvL env xs vs
  | _, _ => False
theorem evn {env : Env} : EvL env [] [] := trivial
theorem evc {env : Env} {x : Operand} {v : Value} {xs : List Operand} {vs : List Value} (h : Ev env x v) (k : EvL env xs vs) : EvL env (x :: xs) (v :: vs) := ⟨h, k⟩
theorem subn {env : Env} : Sub [] env := trivial
theorem subc {env r : Env} {k : Nat} {v : Value} (h : look env k = some v) (hr : Sub r env) : Sub ((k, v) :: r) env := ⟨h, hr⟩
theorem Holds.evalL {a : Act} (h : Holds N a env) : ∀ {xs : List Operand} {vs : List Value}, EvL env xs vs → xs.map a.eval = vs
  | [], [], _ => rfl
  | x :: xs, v :: vs, e => by rw [List.map_cons, h.eval e.1, Holds.evalL h e.2]
/-- A call of a Go function. -/
theorem GL.call {n : Nat} {f : FuncId} {xs : List Operand} {ts : Array TypeId} {vs : List Value} (hd : o.dst = some n) (hn : Nat.blt n N = true) (hw : want ops env o = some true)
    (ho : o.op = .call { callee := .value (.func f), args := xs.toArray, argTypes := ts }) (hf : ∀ args W, (callFunc f args).run P W = .ok (.enter f args) W) (hx : EvL env xs vs)
    (hc : Calls P f vs.toArray w (fun e w' => ∃ v, e = .returned v ∧ GL P ops Q N w' rest ((n, v) :: env))) : GL P ops Q N w (o :: rest) env := by
  intro a ha
  refine BigFrame.wpList_want (wanted_of ha hw) fun K hK => ?_
  have hr : (execOp a.eval o).run P w = .ok (.enter f vs.toArray) w := by
    have e := ha.evalL hx
    have ef : a.eval (.func f) = .func (.func f) #[] #[] := rfl
    generalize a.eval = ρ at e ef ⊢
    unfold execOp; rw [ho]
    simp [go_sem, e, ef, hf]
  unfold Oper.wp
  rw [hr]
  refine hc.mono ?_
  rintro e w' ⟨v, rfl, h⟩
  show K (a.put o.dst v) w'
  rw [hd]
  exact hK _ _ (h _ (ha.put v (by simpa [Nat.blt_eq] using hn)))
end
end Go.Proofs.Ytmnjlnkfihklgaa.E
namespace Go.Proofs.Ytmnjlnkfihklgaa.E
set_option linter.unusedVariables false
/-- What the check looks at of an operation: where it writes, what it looks at, what it waits for. -/
structure Inf where
  dst : Option Nat
  looks : List Nat
  edges : List Nat
def infOf (ops : Array Oper) (o : Oper) : Inf := ⟨o.dst, (o.looksAt ops), (o.after.toList.filter (Region.binds .any)).map (·.on)⟩
def apartI (x y : Inf) : Bool :=
  (match x.dst with
   | some d => !(y.looks.contains d) && y.dst != some d
   | none => true) &&
  (match y.dst with
   | some d => !(x.looks.contains d)
   | none => true)
def fast : Nat → List Inf → Bool
  | _, [] => true
  | k, x :: r => x.edges.all (fun e => decide (e < k)) && (r.all fun y => y.edges.contains k || apartI x y) && fast (k + 1) r
def Told (n k : Nat) (listed : Array Bool) : Prop := listed.size = n ∧ ∀ j b, j < n → listed.getD j b = decide (j < k)
theorem told_next {n k : Nat} {listed : Array Bool} (h : Told n k listed) (hk : k < n) : Told n (k + 1) (listed.setIfInBounds k true) := by
  refine ⟨by simp [h.1], fun j b hj => ?_⟩
  by_cases he : k = j
  · subst he
    rw [Array.getD_eq_getD_getElem?, Array.getElem?_setIfInBounds]
    simp [h.1, hj]
  · have h2 := h.2 j b hj
    rw [Array.getD_eq_getD_getElem?] at h2 ⊢
    rw [Array.getElem?_setIfInBounds, if_neg he, h2]
    by_cases hjk : j < k
    · simp [hjk]; omega
    · simp [hjk]; omega
theorem lexFrom_fast (l : List Oper) : ∀ (fuel k : Nat) (listed : Array Bool), k + fuel = l.length → Told l.length k listed → fast k ((l.map (infOf l.toArray)).drop k) = true → Region.lexFrom .any l.toArray fuel k listed = true
  | 0, k, listed, hk, ht, hf => by
    unfold Region.lexFrom
    rw [List.isEmpty_iff]
    unfold Region.ready
    rw [List.filter_eq_nil_iff]
    intro j hj
    have hjn : j < l.length := by simpa using hj
    have : listed.getD j true = true := by rw [ht.2 j true hjn]; simp; omega
    simp [this]
  | fuel + 1, k, listed, hk, ht, hf => by
    have hkn : k < l.length := by omega
    have hd : (l.map (infOf l.toArray)).drop k = infOf l.toArray (l[k]'hkn) :: (l.map (infOf l.toArray)).drop (k + 1) := by
      rw [List.drop_eq_getElem_cons (by simpa using hkn)]
      simp
    rw [hd] at hf
    unfold fast at hf
    simp only [Bool.and_eq_true] at hf
    obtain ⟨⟨h1, h2⟩, h3⟩ := hf
    have hget : l.toArray[k]? = some (l[k]'hkn) := by simp [hkn]
    unfold Region.lexFrom
    simp only [Bool.and_eq_true]
    refine ⟨⟨?_, ?_⟩, lexFrom_fast l fuel (k + 1) _ (by omega) (told_next ht hkn) h3⟩
    · rw [List.contains_iff_mem]
      unfold Region.ready
      rw [List.mem_filter]
      refine ⟨by simpa using hkn, ?_⟩
      have : listed.getD k true = false := by rw [ht.2 k true hkn]; simp
      rw [this, hget]
      simp only [Bool.not_false, Bool.true_and, Option.map_some, Option.getD_some]
      rw [Array.all_eq_true_iff_forall_mem]
      intro e he
      by_cases hb : Region.binds .any e = true
      · have hm : e.on ∈ (infOf l.toArray (l[k]'hkn)).edges := by
          unfold infOf
          simp only [List.mem_map, List.mem_filter]
          exact ⟨e, ⟨by simpa using he, hb⟩, rfl⟩
        have hlt : e.on < k := by
          have := (List.all_eq_true.mp h1) _ hm
          simpa using this
        have : listed.getD e.on false = true := by rw [ht.2 e.on false (by omega)]; simpa using hlt
        rw [this]
        simp
      · simp [hb]
    · unfold Region.free
      rw [hget]
      simp only [List.all_eq_true, List.mem_range]
      intro j hj
      have hjn : j < l.length := by simpa using hj
      by_cases hjk : j = k
      · simp [hjk]
      · by_cases hlt : j < k
        · have : listed.getD j true = true := by rw [ht.2 j true hjn]; simpa using hlt
          simp [this]
        · have hgj : l.toArray[j]? = some (l[j]'hjn) := by simp [hjn]
          rw [hgj]
          have hm : infOf l.toArray (l[j]'hjn) ∈ (l.map (infOf l.toArray)).drop (k + 1) := by
            rw [List.mem_drop_iff_getElem]
            refine ⟨j - (k + 1), by simp; omega, ?_⟩
            simp only [List.getElem_map]
            congr 1
            congr 1
            omega
          have h4 := (List.all_eq_true.mp h2) _ hm
          simp only [Bool.or_eq_true] at h4 ⊢
          rcases h4 with h5 | h5
          · right; left
            rw [List.contains_iff_mem] at h5
            unfold infOf at h5
            simp only [List.mem_map, List.mem_filter] at h5
            obtain ⟨e, ⟨he, hb⟩, ho⟩ := h5
            rw [Array.any_eq_true']
            exact ⟨e, by simpa using he, by simp [hb, ho]⟩
          · right; right
            exact h5
theorem lexB_fast {l : List Oper} {m : List Inf} (hm : l.map (infOf l.toArray) = m) (hs : Region.noSelect l.toArray = true) (hf : fast 0 m = true) : Region.lexB .any l.toArray = true := by
  unfold Region.lexB
  rw [hs, Bool.true_and]
  refine lexFrom_fast l _ 0 _ (by simp) ⟨by simp, fun j b hj => ?_⟩ (by simpa [hm] using hf)
  simp [hj]
/-- A region that draws and only reads, its order checked quickly. -/
theorem CG.quietF {P : Program} {Q : Exit → Act → World → Prop} {N : Nat} {w : World} {env : Env} {id : Nat} {l : List Oper} {m : List Inf} (hp : P.follows .mixedOrders = true) (hm : l.map (infOf l.toArray) = m) (hs : Region.noSelect l.toArray = true) (hf : fast 0 m = true) (h : GQ P l.toArray Q N w l env) : CG P (.region id l.toArray true) Q N env w :=
  CG.quiet hp (lexB_fast hm hs hf) h
end Go.Proofs.Ytmnjlnkfihklgaa.E
namespace Go.Proofs.Ytmnjlnkfihklgaa.E
open Go.RowKit Go.Proofs.YtmnjlnkfihklgaaW.PrintWords Go.Proofs.YtmnjlnkfihklgaaW.PrintMore
set_option linter.unusedVariables false
def GH (P : Program) (ops : Array Oper) (Q : Exit → Act → World → Prop) (N : Nat) (S : World → Prop) (fuel : Nat) (listed : Array Bool) (env : Env) (w : World) : Prop := ∀ a, Holds N a env → S w → wpAnyH P .any ops Q S fuel listed a w
/-- One operation of those that may come up. -/
def GO (P : Program) (ops : Array Oper) (Q : Exit → Act → World → Prop) (N : Nat) (S : World → Prop) (fuel : Nat) (listed : Array Bool) (env : Env) (w : World) (o : Oper) : Prop :=
  ∀ a, Holds N a env → S w → ∀ K : Act → World → Prop, (∀ a w, S w → (S w → wpAnyH P .any ops Q S fuel listed a w) → K a w) → if Region.wanted o (yielded ops a.tmps) = true then Oper.wp P o a w K Q else K (a.put o.dst undef) w
def GHs (P : Program) (ops : Array Oper) (Q : Exit → Act → World → Prop) (N : Nat) (S : World → Prop) (fuel : Nat) (listed : Array Bool) (env : Env) (w : World) (rs : List Nat) : Prop := ∀ a, Holds N a env → S w → AllReadyH P .any ops Q S fuel listed a w rs
/-- A panic is told alike, whatever the frame. -/
def Calm (Q : Exit → Act → World → Prop) : Prop := ∀ c (a : Act) (d : Option Tmp) (v : Value) w, Q (.panic c) (a.put d v) w → Q (.panic c) a w
section
variable {P : Program} {ops : Array Oper} {Q : Exit → Act → World → Prop} {N : Nat} {S : World → Prop} {fuel : Nat} {listed : Array Bool} {env : Env} {w : World} {o : Oper}
theorem CG.held {id : Nat} (S : World → Prop) (hm : P.follows .mixedOrders = true) (hS : S w.drew) (h : GH P ops Q N S ops.size (Array.replicate ops.size false) env w.drew) : CG P (.region id ops true) Q N env w :=
  fun a ha => wp_region_held_drew hm hS fun hs => h a ha hs
theorem GH.take {i n : Nat} {v : Value} (hi : ops[i]? = some o) (hs : Region.noSelect ops = true) (hf : Region.free .any ops listed i = true) (hr : (Region.ready .any ops listed).contains i = true) (hQ : Calm Q) (hd : o.dst = some n) (hn : Nat.blt n N = true)
    (hw : want ops env o = some true) (hy : ∀ w', S w' → Runs P N env o w' v) (h : GH P ops Q N S fuel (listed.setIfInBounds i true) ((n, v) :: env) w) : GH P ops Q N S (fuel + 1) listed env w := by
  intro a ha hS
  refine wpAnyH_take hi hs hf hr (fun c a w => hQ c a _ _ w) (.inl ⟨wanted_of ha hw, fun w' hw' => hy w' hw' a w' ha rfl⟩) hS ?_
  rw [hd]
  exact h _ (ha.put v (by simpa [Nat.blt_eq] using hn)) hS
theorem GH.pass {i n : Nat} (hi : ops[i]? = some o) (hs : Region.noSelect ops = true) (hf : Region.free .any ops listed i = true) (hr : (Region.ready .any ops listed).contains i = true) (hQ : Calm Q) (hd : o.dst = some n) (hn : Nat.blt n N = true)
    (hw : want ops env o = some false) (h : GH P ops Q N S fuel (listed.setIfInBounds i true) ((n, undef) :: env) w) : GH P ops Q N S (fuel + 1) listed env w := by
  intro a ha hS
  refine wpAnyH_take hi hs hf hr (fun c a w => hQ c a _ _ w) (.inr ⟨wanted_of ha hw, rfl⟩) hS ?_
  rw [hd]
  exact h _ (ha.put undef (by simpa [Nat.blt_eq] using hn)) hS
theorem GH.all {rs : List Nat} (hr : Region.ready .any ops listed = rs) (hne : rs ≠ []) (h : GHs P ops Q N S fuel listed env w rs) : GH P ops Q N S (fuel + 1) listed env w :=
  fun a ha hS => wpAnyH_ready hr hne (h a ha hS)
theorem GHs.nil : GHs P ops Q N S fuel listed env w [] := fun a ha hS => AllReadyH.nil
theorem GHs.cons {i : Nat} {rs : List Nat} (ho : ops[i]? = some o) (h : GO P ops Q N S fuel (listed.setIfInBounds i true) env w o) (hs : GHs P ops Q N S fuel listed env w rs) : GHs P ops Q N S fuel listed env w (i :: rs) :=
  fun a ha hS => AllReadyH.cons ho (fun K hK => h a ha hS K hK.out) (hs a ha hS)
theorem GH.done (hr : Region.ready .any ops listed = []) (h : QG Q .normal N env w) : GH P ops Q N S fuel listed env w := fun a ha _ => wpAnyH_done hr (h a ha) fuel
/-- Any law of the kit's for one step of a region that draws. -/
theorem GO.step {n : Nat} (hd : o.dst = some n) (hn : Nat.blt n N = true)
    (hs : ∀ a, Holds N a env → ∀ K : Act → World → Prop, (∀ v w1, S w1 → GH P ops Q N S fuel listed ((n, v) :: env) w1 → K (a.put o.dst v) w1) → if Region.wanted o (yielded ops a.tmps) = true then Oper.wp P o a w K Q else K (a.put o.dst undef) w) : GO P ops Q N S fuel listed env w o := by
  intro a ha hS K hK
  refine hs a ha K fun v w1 h1 h2 => hK _ _ h1 fun h3 => ?_
  rw [hd]
  exact h2 _ (ha.put v (by simpa [Nat.blt_eq] using hn)) h3
theorem GO.event {n : Nat} {v : Value} {w1 : World} (hd : o.dst = some n) (hn : Nat.blt n N = true) (hw : want ops env o = some true) (hr : ∀ a, Holds N a env → (execOp a.eval o).run P w = .ok (.value v) w1) (hS1 : S w1) (h : GH P ops Q N S fuel listed ((n, v) :: env) w1) : GO P ops Q N S fuel listed env w o := by
  refine GO.step hd hn fun a ha K hK => ?_
  rw [if_pos (wanted_of ha hw)]
  unfold Oper.wp
  rw [hr a ha]
  exact hK _ _ hS1 h
end
end Go.Proofs.Ytmnjlnkfihklgaa.E
namespace Go.Proofs.Ytmnjlnkfihklgaa.E
open Go.RowKit Go.Proofs.YtmnjlnkfihklgaaW.PrintWords Go.Proofs.YtmnjlnkfihklgaaW.PrintMore
open Go.Proofs.Ytmnjlnkfihklgaa.T
set_option linter.unusedVariables false
set_option linter.unusedSimpArgs false
/-- One operation is carried out: what follows is told of its value and the world behind it. -/
def ST (P : Program) (Q : Exit → Act → World → Prop) (N : Nat) (env : Env) (w : World) (o : Oper) (K : Value → World → Prop) : Prop :=
  ∀ a, Holds N a env → ∀ Kc : Act → World → Prop, (∀ v w1, K v w1 → Kc (a.put o.dst v) w1) → Oper.wp P o a w Kc Q
section
variable {P : Program} {ops : Array Oper} {Q : Exit → Act → World → Prop} {N : Nat} {w : World} {rest : List Oper} {env : Env} {o : Oper} {K : Value → World → Prop}
theorem GL.st {n : Nat} (hd : o.dst = some n) (hn : Nat.blt n N = true) (hw : want ops env o = some true) (h : ST P Q N env w o (fun v w1 => GL P ops Q N w1 rest ((n, v) :: env))) : GL P ops Q N w (o :: rest) env := by
  intro a ha
  refine BigFrame.wpList_want (wanted_of ha hw) fun Kc hK => h a ha Kc fun v w1 h1 => hK _ _ ?_
  rw [hd]
  exact h1 _ (ha.put v (by simpa [Nat.blt_eq] using hn))
theorem GL.sn (hd : o.dst = none) (hw : want ops env o = some true) (h : ST P Q N env w o (fun v w1 => GL P ops Q N w1 rest env)) : GL P ops Q N w (o :: rest) env := by
  intro a ha
  refine BigFrame.wpList_want (wanted_of ha hw) fun Kc hK => h a ha Kc fun v w1 h1 => hK _ _ ?_
  rw [hd]
  exact h1 _ ha
variable {S : World → Prop} {fuel : Nat} {listed : Array Bool}
theorem GO.st {n : Nat} (hd : o.dst = some n) (hn : Nat.blt n N = true) (hw : want ops env o = some true) (h : ST P Q N env w o (fun v w1 => S w1 ∧ GH P ops Q N S fuel listed ((n, v) :: env) w1)) : GO P ops Q N S fuel listed env w o := by
  intro a ha hS Kc hK
  rw [if_pos (wanted_of ha hw)]
  refine h a ha Kc fun v w1 h1 => hK _ _ h1.1 fun _ => ?_
  rw [hd]
  exact h1.2 _ (ha.put v (by simpa [Nat.blt_eq] using hn)) h1.1
theorem GO.sn (hd : o.dst = none) (hw : want ops env o = some true) (h : ST P Q N env w o (fun v w1 => S w1 ∧ GH P ops Q N S fuel listed env w1)) : GO P ops Q N S fuel listed env w o := by
  intro a ha hS Kc hK
  rw [if_pos (wanted_of ha hw)]
  refine h a ha Kc fun v w1 h1 => hK _ _ h1.1 fun _ => ?_
  rw [hd]
  exact h1.2 _ ha h1.1
/-- The one operation that can come next. -/
theorem GH.one {i : Nat} (hr : Region.ready .any ops listed = [i]) (ho : ops[i]? = some o) (h : GO P ops Q N S fuel (listed.setIfInBounds i true) env w o) : GH P ops Q N S (fuel + 1) listed env w :=
  GH.all hr (by simp) (GHs.cons ho h GHs.nil)
theorem ST.ev {v : Value} {w1 : World} (hr : ∀ a, Holds N a env → (execOp a.eval o).run P w = .ok (.value v) w1) (h : K v w1) : ST P Q N env w o K := by
  intro a ha Kc hK
  unfold Oper.wp
  rw [hr a ha]
  exact hK _ _ h
theorem ST.reads {v : Value} (hr : Runs P N env o w v) (h : K v w) : ST P Q N env w o K := ST.ev (fun a ha => hr a w ha rfl) h
theorem ST.box {t : TypeId} {x : Operand} {cs : Array Value} (ho : o.op = .box t x) (hx : Ev env x (.agg cs))
    (h : ∀ g w1, g = w.heap.size → w1.heap[g]? = some (.cells cs t (0, 0)) → Below w.heap.size w w1 → K (.pointer (some ⟨g, 0, none⟩)) w1) : ST P Q N env w o K := by
  refine ST.ev (v := .pointer (some ⟨w.heap.size, 0, none⟩)) (w1 := w.alloc (.cells cs t (0, 0))) (fun a ha => ?_) (h _ _ rfl (blk_new w _) (below_alloc (Below.refl _ _) _))
  unfold execOp; rw [ho]; simp only []; rw [ha.eval hx]
  simp [go_sem]
theorem ST.alloc {t : TypeId} {cs : Array Value} (ho : o.op = .alloc t) (hz : (P.info? t).map (·.zero) = some (some (.agg cs)))
    (h : ∀ g w1, g = w.heap.size → w1.heap[g]? = some (.cells cs t (0, 0)) → Below w.heap.size w w1 → K (.pointer (some ⟨g, 0, none⟩)) w1) : ST P Q N env w o K := by
  refine ST.ev (v := .pointer (some ⟨w.heap.size, 0, none⟩)) (w1 := w.alloc (.cells cs t (0, 0))) (fun a ha => ?_) (h _ _ rfl (blk_new w _) (below_alloc (Below.refl _ _) _))
  cases hq : P.info? t with
  | none => simp [hq] at hz
  | some i =>
    have hi : i.zero = some (.agg cs) := by simpa [hq] using hz
    unfold execOp; rw [ho]; simp only []
    simp [go_sem, zeroValue, typeInfo, hq, hi]
theorem ST.call {f : FuncId} {xs : List Operand} {ts : Array TypeId} {vs : List Value}
    (ho : o.op = .call { callee := .value (.func f), args := xs.toArray, argTypes := ts }) (hf : ∀ args W, (callFunc f args).run P W = .ok (.enter f args) W) (hx : EvL env xs vs)
    (hc : Calls P f vs.toArray w (fun e w' => ∃ v, e = .returned v ∧ K v w')) : ST P Q N env w o K := by
  intro a ha Kc hK
  have hr : (execOp a.eval o).run P w = .ok (.enter f vs.toArray) w := by
    have e := ha.evalL hx
    have ef : a.eval (.func f) = .func (.func f) #[] #[] := rfl
    generalize a.eval = ρ at e ef ⊢
    unfold execOp; rw [ho]
    simp [go_sem, e, ef, hf]
  unfold Oper.wp
  rw [hr]
  refine hc.mono ?_
  rintro e w' ⟨v, rfl, h⟩
  exact hK _ _ h
/-- One cell is written. -/
theorem ST.store {ty : TypeId} {x y : Operand} {b i : Nat} {k : IntKind} {n : Int} {cs cs' : Array Value} {t : TypeId} (ho : o.op = .store ty x y) (hz : Sized P ty) (hz1 : P.cellsOf ty = 1) (hx : Ev env x (.pointer (some ⟨b, i, none⟩))) (hy : Ev env y (.int k n))
    (hb : w.heap[b]? = some (.cells cs t (0, 0))) (hi : Nat.blt i cs.size = true) (hcs : cs.setIfInBounds i (.int k n) = cs') (h : ∀ w1, w1.heap[b]? = some (.cells cs' t (0, 0)) → w.grownBy w1 (some b) → K undef w1) : ST P Q N env w o K := by
  intro a ha Kc hK
  have hi' : i < cs.size := by simpa [Nat.blt_eq] using hi
  have h1 : w.cell? ⟨b, i, none⟩ = some cs[i] := by rw [blk_cell hb, Array.getElem?_eq_getElem hi']
  have h2 : w.frozen? ⟨b, i, none⟩ = false := blk_frozen hb i
  have hr : (execOp a.eval o).run P w = .ok .skip (w.setCell ⟨b, i, none⟩ (.int k n)) := by
    unfold execOp; rw [ho]; simp only []; rw [ha.eval hx, ha.eval hy]
    obtain ⟨inf, q1, q2⟩ := hz
    simp [go_sem, run_sizeOf w q1, hz1, h1, h2]
  unfold Oper.wp
  rw [hr]
  exact hK undef _ (h _ (by rw [blk_set hb, hcs]) (gb_set (World.grownBy.refl w _) (.inr rfl) _))
/-- A whole struct is written into a variable of its own. -/
theorem ST.store_whole {ty : TypeId} {x y : Operand} {b : Nat} {cells old : Array Value} {t : TypeId} (hd : o.dst = none) (hg : o.guard = none) (ho : o.op = .store ty x y) (hx : Ev env x (.pointer (some ⟨b, 0, none⟩))) (hy : Ev env y (.agg cells))
    (hb : w.heap[b]? = some (.cells old t (0, 0))) (hs : old.size = cells.size) (hi : (P.info? ty).map (·.size) = some cells.size) (h1 : cells.all (·.oneCell') = true)
    (h : ∀ w1, w1.heap[b]? = some (.cells cells t (0, 0)) → w.grownBy w1 (some b) → GL P ops Q N w1 rest env) : GL P ops Q N w (o :: rest) env := GL.store_whole hd hg ho hx hy hb hs hi h1 h
def EvP (env : Env) : List (Nat × Operand) → List (Nat × Value) → Prop
  | [], [] => True
  | x :: xs, v :: vs => (x.1 = v.1 ∧ Ev env x.2 v.2) ∧ EvP env xs vs
  | _, _ => False
theorem epn {env : Env} : EvP env [] [] := trivial
theorem epc {env : Env} {i : Nat} {x : Operand} {v : Value} {xs : List (Nat × Operand)} {vs : List (Nat × Value)} (h : Ev env x v) (k : EvP env xs vs) : EvP env ((i, x) :: xs) ((i, v) :: vs) := ⟨⟨rfl, h⟩, k⟩
theorem Holds.evalP {a : Act} (h : Holds N a env) : ∀ {xs : List (Nat × Operand)} {vs : List (Nat × Value)}, EvP env xs vs → xs.map (fun p => (p.1, a.eval p.2)) = vs
  | [], [], _ => rfl
  | x :: xs, v :: vs, e => by rw [List.map_cons, h.eval e.1.2, e.1.1, Holds.evalP h e.2]
/-- A struct is built. -/
theorem Runs.build {t : TypeId} {xs : List (Nat × Operand)} {vs : List (Nat × Value)} {v : Value} (ho : o.op = .build t xs.toArray) (hx : EvP env xs vs) (hr : ∀ W, (Instr.build t vs.toArray).run P W = .ok v W) : Runs P N env o w v := fun a w' ha hw => by
  have e := ha.evalP hx
  have hr' := hr w'
  generalize a.eval = ρ at e ⊢
  unfold execOp; rw [ho]
  simp only [List.map_toArray, e]
  rw [Sem.run_bind, hr']; rfl
/-- A slice of one is made. -/
theorem ST.lit {t : TypeId} {m : Nat} {xs : List (Nat × Operand)} {vs : List (Nat × Value)} {e : TypeId} {cs : Array Value} (ho : o.op = .buildSlice t m xs.toArray) (hx : EvP env xs vs)
    (hr : ∀ W, (Instr.buildSlice t m vs.toArray).run P W = .ok (.slice (some ⟨W.heap.size, 0, none⟩) m m) (W.alloc (.cells cs e (0, 0)))) (h : K (.slice (some ⟨w.heap.size, 0, none⟩) m m) (w.alloc (.cells cs e (0, 0)))) : ST P Q N env w o K := by
  refine ST.ev (fun a ha => ?_) h
  have e := ha.evalP hx
  have hr' := hr w
  generalize a.eval = ρ at e ⊢
  unfold execOp; rw [ho]
  simp only [List.map_toArray, e]
  rw [Sem.run_bind, hr']; rfl
/-- append(v, x), behind the making of the variadic's slice. -/
theorem ST.append {α : Type} (d : Kd α) {w0 : World} (base : Nat) {W : World} {s x : Operand} {t e : TypeId} {z : Value} {bytes : Nat}
    (ho : o.op = .call { callee := .builtin .append, args := #[s, x], argTypes := #[t, t] })
    (ht : P.underlying t = some (.slice e)) (hinfo : (P.info? e).map (fun i => (i.zero, i.size, i.bytes)) = some (some z, d.sz, bytes)) (hz : z.cells.size = d.sz) (hs0 : 0 < d.sz) (hb0 : 0 < bytes)
    {v : Value} {xs : List α} (p : α) {cs : List Value} {ok : Nat → Prop} (hs : Ev env s v) (hx : Ev env x (.slice (some ⟨W.heap.size, 0, none⟩) 1 1)) (hp : d.M W base (fun _ => False) p cs) (hfresh : ∀ k, W.heap.size ≤ k → ok k)
    (HO : d.R e W base ok v xs) (HB : Below base w0 W) (hbase : base ≤ W.heap.size) (hl : (xs.length + 1) * bytes ≤ 140737488355328)
    (h : ∀ v1 w1, d.R e w1 base ok v1 (xs ++ [p]) → Below base w0 w1 → W.grownBy w1 v.ownBlock → K v1 w1) : ST P Q N env (W.alloc (.cells cs.toArray e)) o K := by
  intro a ha Kc hK
  have h0 : Region.wanted { o with guard := none } (yielded #[] a.tmps) = true := rfl
  have := Kd.R_append_step (P := P) (ops := #[]) (o := { o with guard := none }) (a := a) (Q := Q) (Kc := Kc) d base h0 s x t e z bytes ho ht hinfo hz hs0 hb0 v xs p cs ok (fun _ => False) (ha.eval hs) (ha.eval hx) hp (fun _ hk => hk.elim) hfresh HO HB hbase hl (fun v1 w1 h1 h2 h3 _ => hK _ _ (h v1 w1 h1 h2 h3))
  rw [if_pos h0] at this
  exact this
theorem Runs.max {x y : Operand} {ts : Array TypeId} {k : IntKind} {m n r : Int} (ho : o.op = .call { callee := .builtin .max, args := #[x, y], argTypes := ts }) (hx : Ev env x (.int k m)) (hy : Ev env y (.int k n)) (hr : mx m n = r) : Runs P N env o w (.int k r) := fun a w' ha hw => by
  have e1 := ha.eval hx
  have e2 := ha.eval hy
  generalize a.eval = ρ at e1 e2 ⊢
  subst hr
  unfold execOp; rw [ho]
  simp [go_sem, e1, e2, max_two, max2_int, mx]
theorem Runs.min {x y : Operand} {ts : Array TypeId} {k : IntKind} {m n r : Int} (ho : o.op = .call { callee := .builtin .min, args := #[x, y], argTypes := ts }) (hx : Ev env x (.int k m)) (hy : Ev env y (.int k n)) (hr : mn m n = r) : Runs P N env o w (.int k r) := fun a w' ha hw => by
  have e1 := ha.eval hx
  have e2 := ha.eval hy
  generalize a.eval = ρ at e1 e2 ⊢
  subst hr
  unfold execOp; rw [ho]
  simp [go_sem, e1, e2, min_two, min2_int, mn]
end
end Go.Proofs.Ytmnjlnkfihklgaa.E
namespace Go.Proofs.Ytmnjlnkfihklgaa.E
open Go.RowKit Go.Proofs.YtmnjlnkfihklgaaW.PrintWords Go.Proofs.YtmnjlnkfihklgaaW.PrintMore
open Go.Proofs.Ytmnjlnkfihklgaa.T
set_option linter.unusedVariables false
set_option linter.unusedSimpArgs false
section
variable {P : Program} {ops : Array Oper} {Q : Exit → Act → World → Prop} {N : Nat} {w : World} {rest : List Oper} {env : Env} {o : Oper} {S : World → Prop} {fuel : Nat} {listed : Array Bool}
theorem GL.cmp {p : Prop} [Decidable p] {n : Nat} (hd : o.dst = some n) (hn : Nat.blt n N = true) (hw : want ops env o = some true) (hr : ∀ b, decide p = b → Runs P N env o w (.bool b))
    (ht : p → GL P ops Q N w rest ((n, .bool true) :: env)) (hf : ¬ p → GL P ops Q N w rest ((n, .bool false) :: env)) : GL P ops Q N w (o :: rest) env := by
  by_cases h : p
  · exact GL.run hd hn hw (hr _ (decide_eq_true h)) (ht h)
  · exact GL.run hd hn hw (hr _ (decide_eq_false h)) (hf h)
theorem GL.cmpn {p : Prop} [Decidable p] {n : Nat} (hd : o.dst = some n) (hn : Nat.blt n N = true) (hw : want ops env o = some true) (hr : ∀ b, (!decide p) = b → Runs P N env o w (.bool b))
    (ht : ¬ p → GL P ops Q N w rest ((n, .bool true) :: env)) (hf : p → GL P ops Q N w rest ((n, .bool false) :: env)) : GL P ops Q N w (o :: rest) env := by
  by_cases h : p
  · exact GL.run hd hn hw (hr _ (by simp [h])) (hf h)
  · exact GL.run hd hn hw (hr _ (by simp [h])) (ht h)
theorem GQ.cmp {p : Prop} [Decidable p] {n : Nat} (hd : o.dst = some n) (hn : Nat.blt n N = true) (hw : want ops env o = some true) (hr : ∀ b, decide p = b → Runs P N env o w (.bool b))
    (ht : p → GQ P ops Q N w rest ((n, .bool true) :: env)) (hf : ¬ p → GQ P ops Q N w rest ((n, .bool false) :: env)) : GQ P ops Q N w (o :: rest) env := by
  by_cases h : p
  · exact GQ.run hd hn hw (hr _ (decide_eq_true h)) (ht h)
  · exact GQ.run hd hn hw (hr _ (decide_eq_false h)) (hf h)
theorem GQ.cmpn {p : Prop} [Decidable p] {n : Nat} (hd : o.dst = some n) (hn : Nat.blt n N = true) (hw : want ops env o = some true) (hr : ∀ b, (!decide p) = b → Runs P N env o w (.bool b))
    (ht : ¬ p → GQ P ops Q N w rest ((n, .bool true) :: env)) (hf : p → GQ P ops Q N w rest ((n, .bool false) :: env)) : GQ P ops Q N w (o :: rest) env := by
  by_cases h : p
  · exact GQ.run hd hn hw (hr _ (by simp [h])) (hf h)
  · exact GQ.run hd hn hw (hr _ (by simp [h])) (ht h)
theorem GH.cmp {p : Prop} [Decidable p] {i n : Nat} (hi : ops[i]? = some o) (hs : Region.noSelect ops = true) (hf : Region.free .any ops listed i = true) (hr : (Region.ready .any ops listed).contains i = true) (hQ : Calm Q) (hd : o.dst = some n) (hn : Nat.blt n N = true)
    (hw : want ops env o = some true) (hy : ∀ b, decide p = b → ∀ w', S w' → Runs P N env o w' (.bool b)) (ht : p → GH P ops Q N S fuel (listed.setIfInBounds i true) ((n, .bool true) :: env) w) (hff : ¬ p → GH P ops Q N S fuel (listed.setIfInBounds i true) ((n, .bool false) :: env) w) : GH P ops Q N S (fuel + 1) listed env w := by
  by_cases h : p
  · exact GH.take hi hs hf hr hQ hd hn hw (hy _ (decide_eq_true h)) (ht h)
  · exact GH.take hi hs hf hr hQ hd hn hw (hy _ (decide_eq_false h)) (hff h)
theorem GH.cmpn {p : Prop} [Decidable p] {i n : Nat} (hi : ops[i]? = some o) (hs : Region.noSelect ops = true) (hf : Region.free .any ops listed i = true) (hr : (Region.ready .any ops listed).contains i = true) (hQ : Calm Q) (hd : o.dst = some n) (hn : Nat.blt n N = true)
    (hw : want ops env o = some true) (hy : ∀ b, (!decide p) = b → ∀ w', S w' → Runs P N env o w' (.bool b)) (ht : ¬ p → GH P ops Q N S fuel (listed.setIfInBounds i true) ((n, .bool true) :: env) w) (hff : p → GH P ops Q N S fuel (listed.setIfInBounds i true) ((n, .bool false) :: env) w) : GH P ops Q N S (fuel + 1) listed env w := by
  by_cases h : p
  · exact GH.take hi hs hf hr hQ hd hn hw (hy _ (by simp [h])) (hff h)
  · exact GH.take hi hs hf hr hQ hd hn hw (hy _ (by simp [h])) (ht h)
theorem nes {a b : Nat} (h : a ≠ b) : some a ≠ some b := fun e => h (Option.some.inj e)
theorem nen {a : Nat} : some a ≠ none := fun e => nomatch e
theorem gbB {w1 : World} {row : Option Nat} (h : Below w.heap.size w w1) : w.grownBy w1 row := ⟨h.os, h.tape, h.output, h.size, fun k hk _ => h.block k hk⟩
theorem belowG {w1 : World} (h : w.grownBy w1 none) : Below w.heap.size w w1 := ⟨h.os, h.tape, h.output, h.size, fun k hk => h.block k hk (fun e => nomatch e)⟩
/-- What is there, behind a world that left all of this base as it was. -/
theorem below_own {w0 w1 : World} {g : Nat} (L : Below w0.heap.size w0 w) (hg : w0.heap.size ≤ g) (h : w.grownBy w1 (some g)) : Below w0.heap.size w0 w1 :=
  pw_below_grown L (some g) L.size h (by rintro k ⟨⟩; exact hg)
theorem CG.heldH {id : Nat} (row : Option Nat) (hm : P.follows .mixedOrders = true) (h : ∀ w1, Below w.heap.size w w1 → w1.grownBy w1 row → GH P ops Q N (fun W => w1.grownBy W row) ops.size (Array.replicate ops.size false) env w1) : CG P (.region id ops true) Q N env w :=
  CG.held _ hm (World.grownBy.refl _ _) (h _ (below_drew (Below.refl _ _)) (World.grownBy.refl _ _))
/-- The value at a place of a list. -/
def nth : List Value → Nat → Option Value
  | [], _ => none
  | x :: _, 0 => some x
  | _ :: r, n + 1 => nth r n
theorem nth_is : ∀ (l : List Value) (i : Nat), nth l i = l[i]?
  | [], i => by simp [nth]
  | x :: r, 0 => rfl
  | x :: r, i + 1 => by simpa [nth] using nth_is r i
theorem blkc {b i : Nat} {cs : List Value} {t : TypeId} {v : Value} (hb : w.heap[b]? = some (.cells cs.toArray t (0, 0))) (hv : nth cs i = some v) : w.cell? ⟨b, i, none⟩ = some v := by
  rw [nth_is] at hv
  rw [blk_cell hb]
  simpa using hv
theorem keeps {w1 : World} {row : Option Nat} {a : Addr} {v : Value} (hg : w.grownBy w1 row) (h : w.cell? a = some v) (hne : some a.block ≠ row) : w1.cell? a = some v := cell_grown hg h hne
theorem GQ.doneB (h : ∀ w1, Below w.heap.size w w1 → QG Q .normal N env w1) : GQ P ops Q N w [] env := GQ.done fun m => h _ (pw_below_drewN (Below.refl _ _) m)
/-- A loop with two ghosts. -/
theorem CG.loop2 {c : Code} {γ δ : Type} (E : γ → δ → Env) (R : γ → δ → World → Prop) (m : γ → δ → Nat) (g0 : γ) (d0 : δ) (h0 : Sub (E g0 d0) env) (hR : R g0 d0 w)
    (round : ∀ g d w', R g d w' → CG P c (Exit.then (fun a'' w'' => ∃ g' d', Holds N a'' (E g' d') ∧ R g' d' w'' ∧ m g' d' < m g d) Q) N (E g d) w') : CG P (.loop c) Q N env w := by
  refine CG.loop (γ := γ × δ) (fun p => E p.1 p.2) (fun p => R p.1 p.2) (fun p => m p.1 p.2) (g0, d0) h0 hR fun p w' h a ha => ?_
  refine wp_mono (round p.1 p.2 w' h a ha) ?_
  intro e a' w1 hq
  cases e <;> first | exact hq | (obtain ⟨g', d', h1⟩ := hq; exact ⟨(g', d'), h1⟩)
theorem QG.round2 {γ δ : Type} {E : γ → δ → Env} {R : γ → δ → World → Prop} {m : γ → δ → Nat} {g : γ} {d : δ} (g' : γ) (d' : δ) (h0 : Sub (E g' d') env) (hR : R g' d' w) (hm : m g' d' < m g d) :
    QG (Exit.then (fun a'' w'' => ∃ g' d', Holds N a'' (E g' d') ∧ R g' d' w'' ∧ m g' d' < m g d) Q) .normal N env w := fun a ha => ⟨g', d', ha.sub h0, hR, hm⟩
theorem ne_f {p : Prop} [Decidable p] (h : p) : (!decide p) = false := by simp [h]
/-- A struct, and another value, are returned. -/
theorem QG.result_ct {fn : Func} {R : Ending → World → Prop} {p u : Tmp} {ty t : TypeId} {g : Nat} {cs : Array Value} {d : TypeDesc} {x : Value} (hf : fn.results = #[.cell p ty, .tmp u]) (hp : look env p = some (.pointer (some ⟨g, 0, none⟩))) (hg : w.heap[g]? = some (.cells cs t (0, 0)))
    (hu : P.underlying ty = some d) (hd : (match d with | .struct _ | .array _ _ => true | _ => false) = true) (hi : (P.info? ty).map (·.size) = some cs.size) (hx : look env u = some x) (h : R (.returned (.tuple #[.agg cs, x])) w) : QG (bodyPost P fn R) .ret N env w := by
  intro a ha
  refine ⟨ha.defers, .tuple #[.agg cs, x], ?_, h⟩
  have e1 : a.tmps.getD p undef = .pointer (some ⟨g, 0, none⟩) := ha.eval (x := .tmp p) hp
  have e2 : a.tmps.getD u undef = x := ha.eval (x := .tmp u) hx
  rw [results_ct hf a.tmps w g t cs (0, 0) d e1 hg hu hd hi, e2]
theorem QG.result_c {fn : Func} {R : Ending → World → Prop} {p : Tmp} {ty t : TypeId} {g : Nat} {cs : Array Value} {d : TypeDesc} (hf : fn.results = #[.cell p ty]) (hp : look env p = some (.pointer (some ⟨g, 0, none⟩))) (hg : w.heap[g]? = some (.cells cs t (0, 0)))
    (hu : P.underlying ty = some d) (hd : (match d with | .struct _ | .array _ _ => true | _ => false) = true) (hi : (P.info? ty).map (·.size) = some cs.size) (h : R (.returned (.agg cs)) w) : QG (bodyPost P fn R) .ret N env w := by
  intro a ha
  refine ⟨ha.defers, .agg cs, ?_, h⟩
  have e1 : a.tmps.getD p undef = .pointer (some ⟨g, 0, none⟩) := ha.eval (x := .tmp p) hp
  have hp' : a.tmps[p]?.getD undef = .pointer (some ⟨g, 0, none⟩) := by simpa using e1
  simp [results, hf, hp', asAddr, run_loadVar_row w g t ty cs (0, 0) d hg hu hd hi]
theorem Runs.eqlv {t u : TypeId} {x y : Operand} {vx vy : Value} {b : Bool} (ho : o.op = .binOp .eql t x y u) (hx : Ev env x vx) (hy : Ev env y vy) (hs : binOp .eql t vx vy = (do pure (.bool (← Op.equal t vx vy)))) (hg : ∀ x y W, (eqGuard .eql t x y vx vy).run P W = .ok () W) (he : ∀ W, (Op.equal t vx vy).run P W = .ok b W) : Runs P N env o w (.bool b) := fun a w' ha hw => by
  unfold execOp; rw [ho]; simp only []; rw [ha.eval hx, ha.eval hy, hs]
  simp only [bind_assoc, pure_bind]
  rw [Sem.run_bind, hg _ _ w']
  show Sem.run P _ w' = _
  rw [Sem.run_bind, he w']
  rfl
theorem Runs.indexAddrA {t e : TypeId} {x y : Operand} {A : Option Addr} {p : Addr} {n c : Nat} {k : IntKind} {i : Nat} {sz : Nat} {q : Addr} (ho : o.op = .indexAddr t x y) (hx : Ev env x (.slice A n c)) (hy : Ev env y (.int k i)) (hu : P.underlying t = some (.slice e)) (hz : Sized P e) (hs : P.cellsOf e = sz) (hl : (i : Int) < n) (hA : A = some p) (hq : p.add (i * sz) = q) : Runs P N env o w (.pointer (some q)) := by
  subst hA
  exact Runs.indexAddr ho hx hy hu hz hs hl hq
theorem Runs.load1 {t : TypeId} {x : Operand} {p : Addr} {d : TypeDesc} {v : Value} (ho : o.op = .load t x) (hx : Ev env x (.pointer (some p))) (hu : P.underlying t = some d) (hd : d.isRow = false) (hc : w.cell? p = some v) : Runs P N env o w v := fun a w' ha hw => by
  have hc' : w'.cell? p = some v := (cell_heap hw p).trans hc
  have hagg : (isAgg t).run P w' = .ok false w' := by
    unfold isAgg
    rw [Sem.run_bind, run_underlying hu w']
    cases d <;> simp_all
  unfold execOp; rw [ho]; simp only []; rw [ha.eval hx]
  simp [go_sem, hagg, hc']
theorem QG.result2 {fn : Func} {R : Ending → World → Prop} {t u : Tmp} {v x : Value} (hf : fn.results = #[.tmp t, .tmp u]) (hv : look env t = some v) (hx : look env u = some x) (h : R (.returned (.tuple #[v, x])) w) : QG (bodyPost P fn R) .ret N env w := by
  intro a ha
  refine ⟨ha.defers, .tuple #[v, x], ?_, h⟩
  rw [results_tmp2 hf]
  have e1 : a.tmps.getD t undef = v := ha.eval (x := .tmp t) (v := v) hv
  have e2 : a.tmps.getD u undef = x := ha.eval (x := .tmp u) (v := x) hx
  rw [e1, e2]
end
end Go.Proofs.Ytmnjlnkfihklgaa.E
namespace Go.Proofs.Ytmnjlnkfihklgaa.E
open Go.RowKit Go.Proofs.YtmnjlnkfihklgaaW.PrintWords Go.Proofs.YtmnjlnkfihklgaaW.PrintMore
open Go.Proofs.Ytmnjlnkfihklgaa.T
set_option linter.unusedVariables false
set_option linter.unusedSimpArgs false
section
variable {P : Program} {ops : Array Oper} {Q : Exit → Act → World → Prop} {N : Nat} {w : World} {rest : List Oper} {env : Env} {o : Oper} {K : Value → World → Prop}
/-- append(v, ys...), ys a slice that is read. -/
theorem ST.appendRows {α : Type} (d : Kd α) {w0 W : World} (base : Nat) {s x : Operand} {t e : TypeId} {z : Value} {bytes : Nat}
    (ho : o.op = .call { callee := .builtin .append, args := #[s, x], argTypes := #[t, t] })
    (ht : P.underlying t = some (.slice e)) (hinfo : (P.info? e).map (fun i => (i.zero, i.size, i.bytes)) = some (some z, d.sz, bytes)) (hz : z.cells.size = d.sz) (hs0 : 0 < d.sz) (hb0 : 0 < bytes)
    {v : Value} {xs ys : List α} {A : Option Addr} {m c : Nat} (hs : Ev env s v) (hx : Ev env x (.slice A m c))
    (HO : d.R e W base (fun _ => True) v xs) (HR : d.C W A m ys) (hKM : ∀ x cs, d.K W x cs → d.M W base (fun _ => False) x cs)
    (HB : Below base w0 W) (hbase : base ≤ W.heap.size) (hl : (xs.length + m) * bytes ≤ 140737488355328)
    (h : ∀ v1 w1, d.R e w1 base (fun _ => True) v1 (xs ++ ys) → Below base w0 w1 → W.grownBy w1 v.ownBlock → K v1 w1) : ST P Q N env W o K := by
  intro a ha Kc hK
  have h0 : Region.wanted { o with guard := none } (yielded #[] a.tmps) = true := rfl
  have := Kd.R_append_rows_step (P := P) (ops := #[]) (o := { o with guard := none }) (a := a) (Q := Q) (Kc := Kc) d base h0 s x t e z bytes ho ht hinfo hz hs0 hb0 v xs ys A m c (fun _ => True) (fun _ => False) (ha.eval hs) (ha.eval hx) HO HR hKM (fun _ hk => hk.elim) (fun _ _ => trivial) HB hbase hl (fun v1 w1 h1 h2 h3 _ => hK _ _ (h v1 w1 h1 h2 h3))
  rw [if_pos h0] at this
  exact this
theorem setCells_mid {b : Nat} {t : TypeId} : ∀ (vs pre old post : List Value) (w : World), w.heap[b]? = some (.cells (pre ++ old ++ post).toArray t (0, 0)) → old.length = vs.length →
    (w.setCells b pre.length vs).heap[b]? = some (.cells (pre ++ vs ++ post).toArray t (0, 0)) ∧ w.grownBy (w.setCells b pre.length vs) (some b)
  | [], pre, old, post, w, h, hl => by
    obtain rfl : old = [] := List.eq_nil_of_length_eq_zero hl
    exact ⟨h, World.grownBy.refl _ _⟩
  | v :: vs, pre, [], post, w, h, hl => by simp at hl
  | v :: vs, pre, o :: old, post, w, h, hl => by
    have h1 : (w.setCell ⟨b, pre.length, none⟩ v).heap[b]? = some (.cells ((pre ++ [v]) ++ old ++ post).toArray t (0, 0)) := by
      rw [blk_set h]
      congr 1
      simp
    have h2 := setCells_mid vs (pre ++ [v]) old post _ h1 (by simpa using hl)
    rw [List.length_append, List.length_singleton] at h2
    refine ⟨?_, (gb_set (World.grownBy.refl w _) (.inr rfl) v).trans h2.2⟩
    have := h2.1
    simp only [List.append_assoc, List.singleton_append] at this ⊢
    exact this
/-- A part of a variable of ours is written. -/
theorem ST.storeS {ty : TypeId} {x y : Operand} {b off : Nat} {cells : List Value} {all all' : List Value} {t : TypeId} (ho : o.op = .store ty x y) (hx : Ev env x (.pointer (some ⟨b, off, none⟩))) (hy : Ev env y (.agg cells.toArray))
    (hb : w.heap[b]? = some (.cells all.toArray t (0, 0))) (hs : Nat.ble (off + cells.length) all.length = true) (hi : (P.info? ty).map (·.size) = some cells.length) (h1 : cells.toArray.all (·.oneCell') = true) (hc : all.take off ++ cells ++ all.drop (off + cells.length) = all')
    (h : ∀ w1, w1.heap[b]? = some (.cells all'.toArray t (0, 0)) → w.grownBy w1 (some b) → K undef w1) : ST P Q N env w o K := by
  intro a ha Kc hK
  have hs' : off + cells.length ≤ all.length := by simpa [Nat.ble_eq] using hs
  have hsplit : all = all.take off ++ (all.drop off).take cells.length ++ all.drop (off + cells.length) := by
    rw [List.append_assoc, ← List.drop_drop, List.take_append_drop, List.take_append_drop]
  have hk := setCells_mid (b := b) (t := t) cells (all.take off) ((all.drop off).take cells.length) (all.drop (off + cells.length)) w (by rw [← hsplit]; exact hb) (by simp; omega)
  have hlen : (all.take off).length = off := by simp; omega
  rw [hlen, hc] at hk
  refine wp_store_mid (P := P) ty x y ho b off cells.toArray (ha.eval hx) (ha.eval hy) ?_ (by simpa using hi) h1 (hK undef _ (h _ (by simpa using hk.1) (by simpa using hk.2)))
  intro j hj
  have hj' : j < cells.length := by simpa using hj
  constructor
  · rw [blk_cell hb, Array.getElem?_eq_getElem (by simp; omega)]
    rfl
  · exact blk_frozen hb _
end
end Go.Proofs.Ytmnjlnkfihklgaa.E
namespace Go.Proofs.Ytmnjlnkfihklgaa.E
open Go.RowKit Go.Proofs.YtmnjlnkfihklgaaW.PrintWords Go.Proofs.YtmnjlnkfihklgaaW.PrintMore
open Go.Proofs.Ytmnjlnkfihklgaa.T
set_option linter.unusedVariables false
set_option linter.unusedSimpArgs false
/-- Till operation b has come up S1 is known of the world, then S0. -/
def SJ (b : Nat) (S1 S0 : World → Prop) (L : Array Bool) (w : World) : Prop := bif L.getD b false then S0 w else S1 w
theorem SJ.before {b : Nat} {S1 S0 : World → Prop} {L : Array Bool} {w : World} (h : L.getD b false = false) : SJ b S1 S0 L w ↔ S1 w := by unfold SJ; rw [h]; rfl
theorem SJ.behind {b : Nat} {S1 S0 : World → Prop} {L : Array Bool} {w : World} (h : L.getD b false = true) : SJ b S1 S0 L w ↔ S0 w := by unfold SJ; rw [h]; rfl
theorem SJ.or {b : Nat} {S1 S0 : World → Prop} {L : Array Bool} {w : World} (h : SJ b S1 S0 L w) : S1 w ∨ S0 w := by
  unfold SJ at h
  cases hb : L.getD b false <;> rw [hb] at h
  · exact .inl h
  · exact .inr h
theorem SJ.same {b i : Nat} {S1 S0 : World → Prop} {L : Array Bool} {w : World} (h : i ≠ b) : SJ b S1 S0 (L.setIfInBounds i true) w ↔ SJ b S1 S0 L w := by unfold SJ; rw [getD_set_ne false h]
def wpAnyJ (P : Program) (ops : Array Oper) (Q : Exit → Act → World → Prop) (b : Nat) (S1 S0 : World → Prop) : Nat → Array Bool → Act → World → Prop
  | 0, L, a, w => Region.ready .any ops L = [] ∧ Q .normal a w
  | f + 1, L, a, w => (Region.ready .any ops L = [] → Q .normal a w) ∧ ∀ i ∈ Region.ready .any ops L, wpOp P ops Q i (fun a' w' => SJ b S1 S0 (L.setIfInBounds i true) w' ∧ wpAnyJ P ops Q b S1 S0 f (L.setIfInBounds i true) a' w') a w
section
variable {P : Program} {ops : Array Oper} {Q : Exit → Act → World → Prop} {b : Nat} {S1 S0 : World → Prop}
theorem wpAny_of_J : ∀ (f : Nat) (L : Array Bool) (a : Act) (w : World), wpAnyJ P ops Q b S1 S0 f L a w → wpAny P .any ops Q f L a w
  | 0, _, _, _, h => h
  | f + 1, _, _, _, h => ⟨h.1, fun i hi => wpOp_mono (fun a' w' h' => wpAny_of_J f _ a' w' h'.2) (h.2 i hi)⟩
/-- An operation that b waits for may be taken first: what it leaves is told in the worlds before b. -/
theorem J_first1 {i : Nat} {oi ob : Oper} {v : Value} (hi : ops[i]? = some oi) (hib : i ≠ b) (hob : ops[b]? = some ob) (hbi : ∃ e ∈ ob.after, Region.binds .any e = true ∧ e.on = i) (hsel : ∀ (j : Nat) (o : Oper) cs c, ops[j]? = some o → o.op ≠ .select cs c)
    (hQ : ∀ c a w, Q (.panic c) (a.put oi.dst v) w → Q (.panic c) a w) :
    ∀ (fuel : Nat) (L : Array Bool) (a : Act) (w : World), L.getD b false = false →
      (∀ j oj, ops[j]? = some oj → j ≠ i → L.getD j true = false → (∀ e ∈ oj.after, Region.binds .any e = true → e.on ≠ i) → oi.apart ops oj = true) →
      i ∈ Region.ready .any ops L → YieldsIf P ops S1 oi v a → S1 w →
      wpAnyJ P ops Q b S1 S0 fuel (L.setIfInBounds i true) (a.put oi.dst v) w → wpAnyJ P ops Q b S1 S0 (fuel + 1) L a w := by
  intro fuel
  induction fuel with
  | zero =>
    intro L a w hb _ hr hy hS H
    refine ⟨fun h => (by rw [h] at hr; cases hr), fun j hj => ?_⟩
    by_cases hji : j = i
    · subst hji; exact hy.wpOp hi hS ⟨(SJ.same hib).mpr ((SJ.before hb).mpr hS), H⟩
    · have := ready_mono hj hji
      rw [H.1] at this
      cases this
  | succ fuel ih =>
    intro L a w hb hfree hr hy hS H
    refine ⟨fun h => (by rw [h] at hr; cases hr), fun j hj => ?_⟩
    by_cases hji : j = i
    · subst hji; exact hy.wpOp hi hS ⟨(SJ.same hib).mpr ((SJ.before hb).mpr hS), H⟩
    · have h1 := H.2 j (ready_mono hj hji)
      obtain ⟨hjun, oj, hoj, hall⟩ := mem_ready.1 hj
      have h0 := (mem_ready.1 hr).1
      have nol : ∀ k, k = i → L.getD k false = true → False := fun k hk h' => by
        subst hk
        rcases Nat.lt_or_ge k L.size with h2 | h2
        · simp [h2] at h0 h'; rw [h0] at h'; cases h'
        · simp [Array.getElem?_eq_none h2] at h'
      have hjb : j ≠ b := fun e => by
        subst e
        rw [hob] at hoj
        cases hoj
        obtain ⟨e, he, hbe, heq⟩ := hbi
        exact nol _ heq (hall e he hbe)
      have hnot : ∀ e ∈ oj.after, Region.binds .any e = true → e.on ≠ i := fun e he hbe heq => nol _ heq (hall e he hbe)
      have h2 := wpOp_putIf hoj (hfree j oj hoj hji hjun hnot) (fun cs c => hsel i oi cs c hi) (fun cs c => hsel j oj cs c hoj) hQ hy h1
      have hfree' : ∀ k ok, ops[k]? = some ok → k ≠ i → (L.setIfInBounds j true).getD k true = false → (∀ e ∈ ok.after, Region.binds .any e = true → e.on ≠ i) → oi.apart ops ok = true := fun k ok hk hki hun hno => by
        refine hfree k ok hk hki ?_ hno
        by_cases hjk : j = k
        · subst hjk; exact hjun
        · rw [getD_set_ne true hjk] at hun; exact hun
      have hbj : (L.setIfInBounds j true).getD b false = false := by rw [getD_set_ne false hjb]; exact hb
      refine wpOp_mono (fun a' w' h3 => ?_) h2
      have hs1 : S1 w' := by
        have := h3.2.1
        rw [SJ.same hjb, SJ.same hib, SJ.before hb] at this
        exact this
      refine ⟨(SJ.before hbj).mpr hs1, ih (L.setIfInBounds j true) a' w' hbj hfree' (ready_mono hr (Ne.symm hji)) h3.1 hs1 ?_⟩
      rw [Array.setIfInBounds_comm _ _ hji]
      exact h3.2.2
/-- An operation that leaves the same whatever is written. -/
theorem J_first2 {i : Nat} {oi : Oper} {v : Value} (hi : ops[i]? = some oi) (hib : i ≠ b) (hsel : ∀ (j : Nat) (o : Oper) cs c, ops[j]? = some o → o.op ≠ .select cs c)
    (hQ : ∀ c a w, Q (.panic c) (a.put oi.dst v) w → Q (.panic c) a w) :
    ∀ (fuel : Nat) (L : Array Bool) (a : Act) (w : World),
      (∀ j oj, ops[j]? = some oj → j ≠ i → L.getD j true = false → (∀ e ∈ oj.after, Region.binds .any e = true → e.on ≠ i) → oi.apart ops oj = true) →
      i ∈ Region.ready .any ops L → YieldsIf P ops (fun w => S1 w ∨ S0 w) oi v a → SJ b S1 S0 L w →
      wpAnyJ P ops Q b S1 S0 fuel (L.setIfInBounds i true) (a.put oi.dst v) w → wpAnyJ P ops Q b S1 S0 (fuel + 1) L a w := by
  intro fuel
  induction fuel with
  | zero =>
    intro L a w _ hr hy hS H
    refine ⟨fun h => (by rw [h] at hr; cases hr), fun j hj => ?_⟩
    by_cases hji : j = i
    · subst hji; exact hy.wpOp hi hS.or ⟨(SJ.same hib).mpr hS, H⟩
    · have := ready_mono hj hji
      rw [H.1] at this
      cases this
  | succ fuel ih =>
    intro L a w hfree hr hy hS H
    refine ⟨fun h => (by rw [h] at hr; cases hr), fun j hj => ?_⟩
    by_cases hji : j = i
    · subst hji; exact hy.wpOp hi hS.or ⟨(SJ.same hib).mpr hS, H⟩
    · have h1 := H.2 j (ready_mono hj hji)
      obtain ⟨hjun, oj, hoj, hall⟩ := mem_ready.1 hj
      have hnot : ∀ e ∈ oj.after, Region.binds .any e = true → e.on ≠ i := fun e he hb heq => by
        have h1 := hall e he hb
        have h0 := (mem_ready.1 hr).1
        rw [heq] at h1
        rcases Nat.lt_or_ge i L.size with h' | h'
        · simp [h'] at h0 h1; rw [h0] at h1; cases h1
        · simp [Array.getElem?_eq_none h'] at h1
      have h2 := wpOp_putIf hoj (hfree j oj hoj hji hjun hnot) (fun cs c => hsel i oi cs c hi) (fun cs c => hsel j oj cs c hoj) hQ hy h1
      have hfree' : ∀ k ok, ops[k]? = some ok → k ≠ i → (L.setIfInBounds j true).getD k true = false → (∀ e ∈ ok.after, Region.binds .any e = true → e.on ≠ i) → oi.apart ops ok = true := fun k ok hk hki hun hno => by
        refine hfree k ok hk hki ?_ hno
        by_cases hjk : j = k
        · subst hjk; exact hjun
        · rw [getD_set_ne true hjk] at hun; exact hun
      refine wpOp_mono (fun a' w' h3 => ?_) h2
      have hs1 : SJ b S1 S0 (L.setIfInBounds j true) w' := by
        have := h3.2.1
        rw [Array.setIfInBounds_comm _ _ (Ne.symm hji), SJ.same hib] at this
        exact this
      refine ⟨hs1, ih (L.setIfInBounds j true) a' w' hfree' (ready_mono hr (Ne.symm hji)) h3.1 hs1 ?_⟩
      rw [Array.setIfInBounds_comm _ _ hji]
      exact h3.2.2
variable {N : Nat} {w : World} {env : Env} {o : Oper} {fuel : Nat} {L : Array Bool}
def GJ (P : Program) (ops : Array Oper) (Q : Exit → Act → World → Prop) (b : Nat) (S1 S0 : World → Prop) (N : Nat) (fuel : Nat) (L : Array Bool) (env : Env) (w : World) : Prop := ∀ a, Holds N a env → SJ b S1 S0 L w → wpAnyJ P ops Q b S1 S0 fuel L a w
theorem CG.heldJ {id : Nat} (b : Nat) (S1 S0 : World → World → Prop) (hb : Nat.blt b ops.size = true) (hm : P.follows .mixedOrders = true) (hS : ∀ v, S1 v v) (h : ∀ v, Below w.heap.size w v → GJ P ops Q b (S1 v) (S0 v) N ops.size (Array.replicate ops.size false) env v) : CG P (.region id ops true) Q N env w := by
  intro a ha
  refine wp_region_any hm (wpAny_of_J (b := b) (S1 := S1 w.drew) (S0 := S0 w.drew) _ _ _ _ ?_)
  refine h w.drew (below_drew (Below.refl _ _)) a ha ?_
  refine (SJ.before ?_).mpr (hS _)
  have : b < ops.size := by simpa [Nat.blt_eq] using hb
  simp [this]
theorem GJ.take1 {i n : Nat} {v : Value} {ob : Oper} (hi : ops[i]? = some o) (hs : Region.noSelect ops = true) (hf : Region.free .any ops L i = true) (hr : (Region.ready .any ops L).contains i = true) (hib : (i == b) = false) (hob : ops[b]? = some ob) (hbi : (ob.after.any fun e => Region.binds .any e && e.on == i) = true) (hLb : L.getD b false = false)
    (hQ : Calm Q) (hd : o.dst = some n) (hn : Nat.blt n N = true) (hw : want ops env o = some true) (hy : ∀ w', S1 w' → Runs P N env o w' v) (h : GJ P ops Q b S1 S0 N fuel (L.setIfInBounds i true) ((n, v) :: env) w) : GJ P ops Q b S1 S0 N (fuel + 1) L env w := by
  intro a ha hS
  have hib' : i ≠ b := by simpa using hib
  obtain ⟨e, he, hbe⟩ := Array.any_eq_true'.1 hbi
  simp only [Bool.and_eq_true, beq_iff_eq] at hbe
  have hS1 := (SJ.before hLb).mp hS
  refine J_first1 hi hib' hob ⟨e, he, hbe.1, hbe.2⟩ (Region.noSelect_spec hs) (fun c a w => hQ c a _ v w) fuel L a w hLb (Region.free_spec hi hf) (by simpa using hr) (.inl ⟨wanted_of ha hw, fun w' hw' => hy w' hw' a w' ha rfl⟩) hS1 ?_
  rw [hd]
  exact h _ (ha.put v (by simpa [Nat.blt_eq] using hn)) ((SJ.same hib').mpr hS)
theorem GJ.take2 {i n : Nat} {v : Value} (hi : ops[i]? = some o) (hs : Region.noSelect ops = true) (hf : Region.free .any ops L i = true) (hr : (Region.ready .any ops L).contains i = true) (hib : (i == b) = false)
    (hQ : Calm Q) (hd : o.dst = some n) (hn : Nat.blt n N = true) (hw : want ops env o = some true) (hy : ∀ w', (S1 w' ∨ S0 w') → Runs P N env o w' v) (h : GJ P ops Q b S1 S0 N fuel (L.setIfInBounds i true) ((n, v) :: env) w) : GJ P ops Q b S1 S0 N (fuel + 1) L env w := by
  intro a ha hS
  have hib' : i ≠ b := by simpa using hib
  refine J_first2 hi hib' (Region.noSelect_spec hs) (fun c a w => hQ c a _ v w) fuel L a w (Region.free_spec hi hf) (by simpa using hr) (.inl ⟨wanted_of ha hw, fun w' hw' => hy w' hw' a w' ha rfl⟩) hS ?_
  rw [hd]
  exact h _ (ha.put v (by simpa [Nat.blt_eq] using hn)) ((SJ.same hib').mpr hS)
theorem GJ.done (hr : Region.ready .any ops L = []) (h : QG Q .normal N env w) : GJ P ops Q b S1 S0 N fuel L env w := by
  intro a ha _
  cases fuel with
  | zero => exact ⟨hr, h a ha⟩
  | succ f => exact ⟨fun _ => h a ha, fun i hi => by rw [hr] at hi; cases hi⟩
/-- One of those that may come up is carried out. -/
def OJ (P : Program) (ops : Array Oper) (Q : Exit → Act → World → Prop) (b : Nat) (S1 S0 : World → Prop) (N : Nat) (fuel : Nat) (L : Array Bool) (env : Env) (w : World) (i : Nat) : Prop :=
  ∀ a, Holds N a env → wpOp P ops Q i (fun a' w' => SJ b S1 S0 (L.setIfInBounds i true) w' ∧ wpAnyJ P ops Q b S1 S0 fuel (L.setIfInBounds i true) a' w') a w
theorem OJ.st {i n : Nat} (ho : ops[i]? = some o) (hd : o.dst = some n) (hn : Nat.blt n N = true) (hw : want ops env o = some true) (h : ST P Q N env w o (fun v w1 => SJ b S1 S0 (L.setIfInBounds i true) w1 ∧ GJ P ops Q b S1 S0 N fuel (L.setIfInBounds i true) ((n, v) :: env) w1)) : OJ P ops Q b S1 S0 N fuel L env w i := by
  intro a ha
  refine wpOp_step ho fun K' hK => ?_
  rw [if_pos (wanted_of ha hw)]
  refine h a ha K' fun v w1 h1 => hK _ _ ⟨h1.1, ?_⟩
  rw [hd]
  exact h1.2 _ (ha.put v (by simpa [Nat.blt_eq] using hn)) h1.1
theorem OJ.sn {i : Nat} (ho : ops[i]? = some o) (hd : o.dst = none) (hw : want ops env o = some true) (h : ST P Q N env w o (fun v w1 => SJ b S1 S0 (L.setIfInBounds i true) w1 ∧ GJ P ops Q b S1 S0 N fuel (L.setIfInBounds i true) env w1)) : OJ P ops Q b S1 S0 N fuel L env w i := by
  intro a ha
  refine wpOp_step ho fun K' hK => ?_
  rw [if_pos (wanted_of ha hw)]
  refine h a ha K' fun v w1 h1 => hK _ _ ⟨h1.1, ?_⟩
  rw [hd]
  exact h1.2 _ ha h1.1
theorem GJ.one {i : Nat} (hr : Region.ready .any ops L = [i]) (h : OJ P ops Q b S1 S0 N fuel L env w i) : GJ P ops Q b S1 S0 N (fuel + 1) L env w := by
  intro a ha _
  refine ⟨fun h0 => (by rw [hr] at h0; cases h0), fun j hj => ?_⟩
  rw [hr, List.mem_singleton] at hj
  subst hj
  exact h a ha
theorem CG.cut1 {c : Code} {γ : Type} (E : γ → Env) (R : γ → World → Prop) (h : CG P c (fun e a w' => e = .normal ∧ ∃ g, Holds N a (E g) ∧ R g w') N env w) (k : ∀ g w', R g w' → QG Q .normal N (E g) w') : CG P c Q N env w := by
  intro a ha
  refine wp_mono (h a ha) ?_
  rintro e a' w' ⟨rfl, g, hh, hr⟩
  exact k g w' hr a' hh
theorem QG.meet1 {γ : Type} {E : γ → Env} {R : γ → World → Prop} (g : γ) (h0 : Sub (E g) env) (hR : R g w) : QG (fun e a w' => e = .normal ∧ ∃ g, Holds N a (E g) ∧ R g w') .normal N env w := fun a ha => ⟨rfl, g, ha.sub h0, hR⟩
/-! ### What a region leaves as it was -/
/-- The cells of these blocks are as they were. -/
def Keeps (B : Nat → Prop) (v W : World) : Prop := ∀ q u, B q.block → v.cell? q = some u → W.cell? q = some u
theorem Keeps.refl {B : Nat → Prop} (v : World) : Keeps B v v := fun _ _ _ h => h
theorem Keeps.below {B : Nat → Prop} {v W W' : World} (h : Keeps B v W) (l : Below W.heap.size W W') : Keeps B v W' := fun q u hB hq => pw_cell_below l (h q u hB hq)
theorem Keeps.grown {B : Nat → Prop} {v W W' : World} {row : Option Nat} (h : Keeps B v W) (l : W.grownBy W' row) (hn : ∀ k, row = some k → ¬ B k) : Keeps B v W' := fun q u hB hq => cell_grown l (h q u hB hq) (fun e => hn _ e.symm hB)
/-- A slice is written out: a row of ours, and that it is new. -/
theorem ST.litAt {α : Type} (d : Kd α) {w0 : World} (base : Nat) {t : TypeId} {m n : Nat} {xs : List (Nat × Operand)} {vs : List (Nat × Value)} {e : TypeId} {ys : List α} {inner : List Value} {K : Value → World → Prop} (hd : o.dst = some n) (ho : o.op = .buildSlice t m xs.toArray) (hx : EvP env xs vs)
    (hr : ∀ W, (Instr.buildSlice t m vs.toArray).run P W = .ok (.slice (some ⟨W.heap.size, 0, none⟩) ys.length ys.length) (W.alloc (.cells inner.toArray e))) (hrep : Reps (d.M w base (fun _ => False)) d.sz ys inner) (HB : Below base w0 w) (hbase : base ≤ w.heap.size) (hm : ys.length ≤ 9223372036854775807)
    (h : ∀ v1 w1, d.R e w1 base (fun _ => True) v1 ys → Below base w0 w1 → Below w.heap.size w w1 → (∃ k, v1.ownBlock = some k ∧ w.heap.size ≤ k) → K v1 w1) : ST P Q N env w o K := by
  intro a ha Kc hK
  have e1 := ha.evalP hx
  have hrun : (execOp a.eval o).run P w = .ok (.value (.slice (some ⟨w.heap.size, 0, none⟩) ys.length ys.length)) (w.alloc (.cells inner.toArray e)) := by
    have hr' := hr w
    generalize a.eval = ρ at e1 ⊢
    unfold execOp; rw [ho]
    simp only [List.map_toArray, e1]
    rw [Sem.run_bind, hr']; rfl
  have h0 : Region.wanted { o with guard := none } (yielded #[] a.tmps) = true := rfl
  have := Kd.R_lit_step (P := P) (ops := #[]) (o := { o with guard := none }) (a := a) (Q := Q) (W := w) (Kc := Kc) d (w0 := w0) base e h0 (N := n) hd (xs := ys) (inner := inner) (ok := fun _ => True) (okp := fun _ => False) hrun hrep (fun _ hk => hk.elim) trivial HB hbase hm
    (fun v1 w1 h1 h2 h3 h4 => hK _ _ (h v1 w1 h1 h2 (belowG h3) h4))
  rw [if_pos h0] at this
  exact this
theorem gb_row {w0 w1 : World} {row row' : Option Nat} (h : w0.grownBy w row) (k : w.grownBy w1 row') (hn : ∀ i, row' = some i → w0.heap.size ≤ i) : w0.grownBy w1 row :=
  ⟨k.os.trans h.os, k.tape.trans h.tape, k.output.trans h.output, Nat.le_trans h.size k.size, fun i hi hr => (k.block i (Nat.lt_of_lt_of_le hi h.size) (fun e => by have := hn i e.symm; omega)).trans (h.block i hi hr)⟩
/-- A slice of whole numbers is written out: its block. -/
theorem ST.litB {t : TypeId} {m : Nat} {xs : List (Nat × Operand)} {vs : List (Nat × Value)} {e : TypeId} {cs : Array Value} {K : Value → World → Prop} (ho : o.op = .buildSlice t m xs.toArray) (hx : EvP env xs vs)
    (hr : ∀ W, (Instr.buildSlice t m vs.toArray).run P W = .ok (.slice (some ⟨W.heap.size, 0, none⟩) m m) (W.alloc (.cells cs e (0, 0)))) (h : ∀ g w1, g = w.heap.size → w1.heap[g]? = some (.cells cs e (0, 0)) → Below w.heap.size w w1 → K (.slice (some ⟨g, 0, none⟩) m m) w1) : ST P Q N env w o K :=
  ST.lit ho hx hr (h _ _ rfl (blk_new w _) (below_alloc (Below.refl _ _) _))
/-- Cells in the middle of a block are written. -/
theorem ST.storeMid {ty : TypeId} {x y : Operand} {g off : Nat} {cells : List Value} {K : Value → World → Prop} (ho : o.op = .store ty x y) (hx : Ev env x (.pointer (some ⟨g, off, none⟩))) (hy : Ev env y (.agg cells.toArray)) (ht : w.there g off cells.length) (hi : (P.info? ty).map (·.size) = some cells.length) (h1 : cells.toArray.all (·.oneCell') = true)
    (h : K undef (w.setCells g off cells)) : ST P Q N env w o K := by
  intro a ha Kc hK
  exact wp_store_mid (P := P) ty x y ho g off cells.toArray (ha.eval hx) (ha.eval hy) (by simpa using ht) (by simpa using hi) h1 (hK undef _ (by simpa using h))
/-- A slice is written into one cell. -/
theorem ST.storeSl {ty : TypeId} {x y : Operand} {g i : Nat} {A : Option Addr} {n c : Nat} {cs cs' : List Value} {t : TypeId} {K : Value → World → Prop} (ho : o.op = .store ty x y) (hz : Sized P ty) (hz1 : P.cellsOf ty = 1) (hx : Ev env x (.pointer (some ⟨g, i, none⟩))) (hy : Ev env y (.slice A n c))
    (hb : w.heap[g]? = some (.cells cs.toArray t (0, 0))) (hi : Nat.blt i cs.length = true) (hcs : cs.set i (.slice A n c) = cs') (h : ∀ w1, w1.heap[g]? = some (.cells cs'.toArray t (0, 0)) → w.grownBy w1 (some g) → K undef w1) : ST P Q N env w o K := by
  intro a ha Kc hK
  have hi' : i < cs.length := by simpa [Nat.blt_eq] using hi
  have h1 : w.cell? ⟨g, i, none⟩ = some cs[i] := by rw [blk_cell hb]; simp [hi']
  have h2 : w.frozen? ⟨g, i, none⟩ = false := blk_frozen hb i
  have hr : (execOp a.eval o).run P w = .ok .skip (w.setCell ⟨g, i, none⟩ (.slice A n c)) := by
    unfold execOp; rw [ho]; simp only []; rw [ha.eval hx, ha.eval hy]
    obtain ⟨inf, q1, q2⟩ := hz
    simp [go_sem, run_sizeOf w q1, hz1, h1, h2]
  unfold Oper.wp
  rw [hr]
  refine hK undef _ (h _ ?_ (gb_set (World.grownBy.refl w _) (.inr rfl) _))
  rw [blk_set hb, ← hcs]
  simp
end
end Go.Proofs.Ytmnjlnkfihklgaa.E
namespace Go.Proofs.Ytmnjlnkfihklgaa.E
open Go.RowKit Go.Proofs.YtmnjlnkfihklgaaW.PrintWords Go.Proofs.YtmnjlnkfihklgaaW.PrintMore
set_option linter.unusedVariables false
set_option linter.unusedSimpArgs false
section
variable {P : Program} {N : Nat} {w : World} {env : Env} {o : Oper} {Q : Exit → Act → World → Prop}
/-- The end of a slice. -/
theorem Runs.sliceFrom {t e : TypeId} {x y : Operand} {p q : Option Addr} {n c i sz : Nat} {k : IntKind} (ho : o.op = .slice t x (some y) none none) (hx : Ev env x (.slice p n c)) (hy : Ev env y (.int k i)) (hu : P.underlying t = some (.slice e)) (hz : Sized P e) (hs : P.cellsOf e = sz) (hi : (i : Int) ≤ n) (hn : n ≤ c)
    (hq : (if c = i then p else p.map (·.add (i * sz))) = q) : Runs P N env o w (.slice q (n - i) (c - i)) := fun a w' ha hw => by
  obtain ⟨inf, h1, h2⟩ := hz
  have e1 := ha.eval hx
  have e2 := ha.eval hy
  generalize a.eval = ρ at e1 e2 ⊢
  unfold execOp; rw [ho]
  subst hs
  subst hq
  have h3 : i ≤ n := by omega
  cases p <;> simp [go_sem, e1, e2, Instr.sliceAt, Instr.slice, Instr.sliceBounds, Instr.sliceBound, run_underlying hu, run_sizeOf w' h1, asIntOf, h3, Sem.run_bind]
end
end Go.Proofs.Ytmnjlnkfihklgaa.E
namespace Go.Proofs.YtmnjlnkfihklgaaW.PrintWords
end Go.Proofs.YtmnjlnkfihklgaaW.PrintWords
namespace Go.Proofs.Ytmnjlnkfihklgaa.E
open Go.RowKit Go.Proofs.YtmnjlnkfihklgaaW.PrintWords Go.Proofs.YtmnjlnkfihklgaaW.PrintMore
open Go.Proofs.Ytmnjlnkfihklgaa.T
set_option linter.unusedVariables false
set_option linter.unusedSimpArgs false
/-- A fence that lets everything by, in whatever round. -/
structure WF (F : Fence) : Prop where
  d : F.depth = none
  f : ∀ f, F.fn f
  a : F.alive = false
theorem WF.wide : WF Fence.wide := ⟨rfl, fun _ => trivial, rfl⟩
theorem WF.round {F : Fence} (h : WF F) (l : Nat) : WF (F.inRound l) := ⟨h.d, h.f, h.a⟩
theorem WF.plain {F : Fence} (h : WF F) : F.plain = Fence.wide := by
  obtain ⟨h1, h2, h3⟩ := h
  cases F
  simp only [Fence.plain, Fence.wide] at *
  subst h1 h3
  congr
  funext f
  exact propext ⟨fun _ => trivial, fun _ => h2 f⟩
theorem WF.rows {F : Fence} (h : WF F) {n : Nat} {P : Program} {row : String} {args : Array Value} {w : World} {R : Value → World → Prop} (hr : Rows P row args w R) : RowsIn F n P row args w R := fun c cs _ => by
  obtain ⟨v, w', r, s⟩ := hr c cs
  refine ⟨v, w', r, ?_⟩
  rw [← fenced_plain, h.plain]
  exact stepsIn_wide.2 s
def GI (F : Fence) (k : Nat) (P : Program) (ops : Array Oper) (Q : Exit → Act → World → Prop) (N : Nat) (w : World) (rest : List Oper) (env : Env) : Prop := ∀ a, Holds N a env → wpListIn F k P ops Q rest a w
def CI (F : Fence) (k : Nat) (P : Program) (c : Code) (Q : Exit → Act → World → Prop) (N : Nat) (env : Env) (w : World) : Prop := ∀ a, Holds N a env → c.wpIn F k P Q a w
section
variable {F : Fence} {k : Nat} {P : Program} {ops : Array Oper} {Q : Exit → Act → World → Prop} {N : Nat} {w : World} {rest : List Oper} {env : Env} {o : Oper}
theorem wpListIn_want {a : Act} (hw : Region.wanted o (yielded ops a.tmps) = true) (h : ∀ K : Act → World → Prop, (∀ a w, wpListIn F k P ops Q rest a w → K a w) → o.wpIn F k P a w K Q) : wpListIn F k P ops Q (o :: rest) a w :=
  wpListIn_step fun K hK => by rw [if_pos hw]; exact h K hK
def noDefer : Op → Bool
  | .defer _ => false
  | _ => true
theorem semAt_any (ho : noDefer o.op = true) (ρ : Operand → Value) : o.semAt F.round ρ = execOp ρ o :=
  Oper.semAt_plain F ρ o fun c e => by rw [e] at ho; exact Bool.noConfusion ho
theorem GI.run {n : Nat} {v : Value} (hF : WF F) (hnd : noDefer o.op = true) (hd : o.dst = some n) (hn : Nat.blt n N = true) (hw : want ops env o = some true) (hr : Runs P N env o w v) (h : GI F k P ops Q N w rest ((n, v) :: env)) : GI F k P ops Q N w (o :: rest) env := by
  intro a ha
  refine wpListIn_want (wanted_of ha hw) fun K hK => ⟨fun f _ => hF.f f, ?_⟩
  rw [semAt_any hnd, hr a w ha rfl]
  show K (a.put o.dst v) w
  rw [hd]
  exact hK _ _ (h _ (ha.put v (by simpa [Nat.blt_eq] using hn)))
/-- An operation that makes, writes, or calls, in a round. -/
def SI (F : Fence) (k : Nat) (P : Program) (Q : Exit → Act → World → Prop) (N : Nat) (env : Env) (w : World) (o : Oper) (K : Value → World → Prop) : Prop :=
  ∀ a, Holds N a env → ∀ Kc : Act → World → Prop, (∀ v w1, K v w1 → Kc (a.put o.dst v) w1) → Oper.wpIn F k P o a w Kc Q
theorem GI.st {n : Nat} (hd : o.dst = some n) (hn : Nat.blt n N = true) (hw : want ops env o = some true) (h : SI F k P Q N env w o (fun v w1 => GI F k P ops Q N w1 rest ((n, v) :: env))) : GI F k P ops Q N w (o :: rest) env := by
  intro a ha
  refine wpListIn_want (wanted_of ha hw) fun Kc hK => h a ha Kc fun v w1 h1 => hK _ _ ?_
  rw [hd]
  exact h1 _ (ha.put v (by simpa [Nat.blt_eq] using hn))
theorem GI.sn (hd : o.dst = none) (hw : want ops env o = some true) (h : SI F k P Q N env w o (fun v w1 => GI F k P ops Q N w1 rest env)) : GI F k P ops Q N w (o :: rest) env := by
  intro a ha
  refine wpListIn_want (wanted_of ha hw) fun Kc hK => h a ha Kc fun v w1 h1 => hK _ _ ?_
  rw [hd]
  exact h1 _ ha
theorem GI.done (h : QG Q .normal N env w) : GI F k P ops Q N w [] env := fun a ha => h a ha
theorem CI.seq {x y : Code} (h : CI F k P x (Exit.then (y.wpIn F k P Q) Q) N env w) : CI F k P (.seq x y) Q N env w := fun a ha => wpIn_seq (h a ha)
theorem CI.cond_t {c : Operand} {x y : Code} (hc : Ev env c (.bool true)) (h : CI F k P x Q N env w) : CI F k P (.cond c x y) Q N env w := fun a ha => wpIn_cond_true (ha.eval hc) (h a ha)
theorem CI.cond_f {c : Operand} {x y : Code} (hc : Ev env c (.bool false)) (h : CI F k P y Q N env w) : CI F k P (.cond c x y) Q N env w := fun a ha => wpIn_cond_false (ha.eval hc) (h a ha)
theorem CI.block {id : Nat} {c : Code} (h : CI F k P c (Exit.inBlock id Q) N env w) : CI F k P (.block id c) Q N env w := fun a ha => wpIn_block (h a ha)
theorem CI.skip (h : QG Q .normal N env w) : CI F k P .skip Q N env w := fun a ha => wpIn_skip (h a ha)
theorem CI.list {id : Nat} {l : List Oper} (h : GI F k P l.toArray Q N w l env) : CI F k P (.region id l.toArray false) Q N env w := fun a ha => wpIn_region_lit (h a ha)
/-- Outside of rounds both are one. -/
theorem CI.wide {c : Code} (h : CG P c Q N env w) : CI Fence.wide k P c Q N env w := fun a ha => wpIn_wide.2 (h a ha)
theorem CG.wide {c : Code} (k : Nat) (h : CI Fence.wide k P c Q N env w) : CG P c Q N env w := fun a ha => wpIn_wide.1 (h a ha)
/-- A function value is made of a function and what it has captured. -/
theorem Runs.makeFunc {f : FuncId} {xs : List Operand} {vs : List Value} (ho : o.op = .makeFunc (.func f) #[] xs.toArray) (hx : EvL env xs vs) : Runs P N env o w (.func (.func f) #[] vs.toArray) := fun a w' ha hw => by
  have e := ha.evalL hx
  generalize a.eval = ρ at e ⊢
  unfold execOp; rw [ho]
  simp [go_sem, e]
/-- A call of a function value. -/
theorem ST.callV {x : Operand} {f : FuncId} {cap : List Value} {xs : List Operand} {ts : Array TypeId} {vs : List Value} {K : Value → World → Prop}
    (ho : o.op = .call { callee := .value x, args := xs.toArray, argTypes := ts }) (hf : ∀ args W, (callFunc f args).run P W = .ok (.enter f args) W) (hx : Ev env x (.func (.func f) #[] cap.toArray)) (hxs : EvL env xs vs)
    (hc : Calls P f (vs ++ cap).toArray w (fun e w' => ∃ v, e = .returned v ∧ K v w')) : ST P Q N env w o K := by
  intro a ha Kc hK
  have hr : (execOp a.eval o).run P w = .ok (.enter f (vs ++ cap).toArray) w := by
    have e := ha.evalL hxs
    have e1 := ha.eval hx
    generalize a.eval = ρ at e e1 ⊢
    unfold execOp; rw [ho]
    simp [go_sem, e, e1, hf]
  unfold Oper.wp
  rw [hr]
  refine hc.mono ?_
  rintro e w' ⟨v, rfl, h⟩
  exact hK _ _ h
theorem QG.result_n0 {fn : Func} {R : Ending → World → Prop} (hf : fn.results = #[]) (h : R (.returned (.tuple #[])) w) : QG (bodyPost P fn R) .normal N env w := by
  intro a ha
  exact ⟨ha.defers, .tuple #[], results_none hf _ _ _, h⟩
end
end Go.Proofs.Ytmnjlnkfihklgaa.E
namespace Go.Proofs.Ytmnjlnkfihklgaa.E
open Go.RowKit Go.Proofs.YtmnjlnkfihklgaaW.PrintWords Go.Proofs.YtmnjlnkfihklgaaW.PrintMore
open Go.Proofs.Ytmnjlnkfihklgaa.T
set_option linter.unusedVariables false
set_option linter.unusedSimpArgs false
section
variable {F : Fence} {k : Nat} {P : Program} {ops : Array Oper} {Q : Exit → Act → World → Prop} {N : Nat} {w : World} {rest : List Oper} {env : Env} {o : Oper}
/-! #### frames that have something to do at their end -/
def QD (Q : Exit → Act → World → Prop) (e : Exit) (N : Nat) (env : Env) (ds : List Deferred) (w : World) : Prop := ∀ a, Holds N a env → Q e { a with defers := ds } w
def CD (F : Fence) (k : Nat) (P : Program) (c : Code) (Q : Exit → Act → World → Prop) (N : Nat) (env : Env) (ds : List Deferred) (w : World) : Prop := ∀ a, Holds N a env → c.wpIn F k P Q { a with defers := ds } w
def GD (F : Fence) (k : Nat) (P : Program) (ops : Array Oper) (Q : Exit → Act → World → Prop) (N : Nat) (ds : List Deferred) (w : World) (rest : List Oper) (env : Env) : Prop := ∀ a, Holds N a env → wpListIn F k P ops Q rest { a with defers := ds } w
variable {ds : List Deferred}
theorem QD.block_normal {id : Nat} (h : QD Q .normal N env ds w) : QD (Exit.inBlock id Q) .normal N env ds w := h
theorem CD.seq {x y : Code} (h : CD F k P x (Exit.then (y.wpIn F k P Q) Q) N env ds w) : CD F k P (.seq x y) Q N env ds w := fun a ha => wpIn_seq (h a ha)
theorem CD.list {id : Nat} {l : List Oper} (h : GD F k P l.toArray Q N ds w l env) : CD F k P (.region id l.toArray false) Q N env ds w := fun a ha => wpIn_region_lit (h a ha)
theorem CD.ret (h : QD Q .ret N env ds w) : CD F k P .ret Q N env ds w := fun a ha => wpIn_ret (h a ha)
theorem GD.done (h : QD Q .normal N env ds w) : GD F k P ops Q N ds w [] env := fun a ha => h a ha
theorem GD.run {n : Nat} {v : Value} (hF : WF F) (hnd : noDefer o.op = true) (hd : o.dst = some n) (hn : Nat.blt n N = true) (hw : want ops env o = some true) (hr : Runs P N env o w v) (h : GD F k P ops Q N ds w rest ((n, v) :: env)) : GD F k P ops Q N ds w (o :: rest) env := by
  intro a ha
  refine wpListIn_want (wanted_of ha hw) fun K hK => ⟨fun f _ => hF.f f, ?_⟩
  rw [semAt_any hnd, show (execOp ({ a with defers := ds } : Act).eval o).run P w = (execOp a.eval o).run P w from rfl, hr a w ha rfl]
  show K (({ a with defers := ds } : Act).put o.dst v) w
  rw [hd]
  exact hK _ _ (h _ (ha.put v (by simpa [Nat.blt_eq] using hn)))
/-- An operation writes. -/
def Writes (P : Program) (N : Nat) (env : Env) (o : Oper) (w w1 : World) : Prop := ∀ a, Holds N a env → (execOp a.eval o).run P w = .ok .skip w1
theorem GD.sn {w1 : World} (hF : WF F) (hnd : noDefer o.op = true) (hd : o.dst = none) (hw : want ops env o = some true) (hr : Writes P N env o w w1) (h : GD F k P ops Q N ds w1 rest env) : GD F k P ops Q N ds w (o :: rest) env := by
  intro a ha
  refine wpListIn_want (wanted_of ha hw) fun K hK => ⟨fun f _ => hF.f f, ?_⟩
  rw [semAt_any hnd, show (execOp ({ a with defers := ds } : Act).eval o).run P w = (execOp a.eval o).run P w from rfl, hr a ha]
  show K (({ a with defers := ds } : Act).put o.dst undef) w1
  rw [hd]
  exact hK _ _ (h _ ha)
/-- The function returns behind a range: what the range laid is taken up. -/
theorem QD.result2 {fn : Func} {R : Ending → World → Prop} {D : Nat} {t u : Tmp} {v x : Value} (hk : w.heap[D]? = some (.deferred (some []))) (hf : fn.results = #[.tmp t, .tmp u]) (hv : look env t = some v) (hx : look env u = some x) (h : R (.returned (.tuple #[v, x])) (w.putObj D (.deferred none))) :
    QD (bodyPostM F k P fn R) .ret N env [{ target := .collected D, args := #[] }] w := by
  intro a ha
  refine ⟨by simp, .inl ⟨_, _, rfl, run_takeDeferred hk, ?_⟩⟩
  have e1 : a.tmps.getD t undef = v := ha.eval (x := .tmp t) hv
  have e2 : a.tmps.getD u undef = x := ha.eval (x := .tmp u) hx
  refine ⟨.tuple #[v, x], ?_, h⟩
  show (results fn a.tmps).run P _ = _
  rw [results_tmp2 hf, e1, e2]
/-- A range over a function. -/
theorem CI.range {α γ : Type} {g : Operand} {ps : Array Tmp} {assign body : Code} {gf : Nat} {lb : Array Value} {encs : α → Array Value} {S Sp : List α → Prop} {Mx : Nat} {w0 : World} {Kp : World → World → Prop}
    (h1 : 1 ≤ k) (hg : Ev env g (.func (.func gf) #[] lb)) (eg : ∀ args w, (callFunc gf args).run P w = .ok (.enter gf args) w)
    (hseq : SeqStopsK Fence.wide (k - 1) P gf lb encs Kp S Sp Mx w0) (hKt : ∀ {A B C : World}, Kp A B → Kp B C → Kp A C) (hKb : ∀ (W : World) (l : Nat) (o o' : Obj), w.heap.size ≤ l → W.heap[l]? = some o → o.isCells = false → o.isWalk = false → Kp W (W.putObj l o')) (hb0 : Below w0.heap.size w0 w) (hps : ∀ x, (encs x).size = ps.size)
    (I : List α → World → Prop) (hI : OwnFrom w.heap.size I) (h0 : I [] w) (envP : α → Env) (hP : ∀ x a, Holds N a env → Holds N { tmps := (ps.zip (encs x)).foldl (fun t (p, v) => t.setIfInBounds p v) a.tmps, defers := [] } (envP x))
    (envB : α → γ → Env) (RB : α → γ → World → Prop) (hRB : ∀ x c, OwnFrom w.heap.size (fun (_ : Unit) W => RB x c W))
    (hassign : ∀ (l : Nat) (pre : List α) (x : α) (W : World) (K : Act → World → Prop), I pre W → (∀ c W', KeepsFrom w.heap.size W W' → Kp W W' → I pre W' → RB x c W' → ∀ a', Holds N a' (envB x c) → K a' W') → CI (Fence.wide.inRound l) (k - 1 - 1) P assign (Exit.then K (fun _ _ _ => False)) N (envP x) W)
    (hbody : ∀ (l : Nat) (pre : List α) (x : α) (c : γ) (W : World), I pre W → RB x c W → pre.length < Mx → CI (Fence.wide.inRound l) (k - 1 - 1) P body (ownPostG w.heap.size Kp I (fun _ _ _ => False) (pre ++ [x]) W) N (envB x c) W)
    (hdone : ∀ (D : Nat) (xs : List α) (W : World), w.heap.size ≤ D → S xs → I xs W → W.heap[D]? = some (.deferred (some [])) → QD Q .normal N env [{ target := .collected D, args := #[] }] W) :
    CI Fence.wide k P (.rangeFunc g ps assign body) Q N env w := by
  intro a ha
  refine wpIn_rangeFunc_ownH rfl h1 (ha.eval hg) trivial eg hseq hKt hKb hb0 hps I (fun _ _ _ => False) hI (fun c _ _ _ _ hs _ _ => hs) h0
    (fun x a' W => ∃ c, Holds N a' (envB x c) ∧ RB x c W) (fun x a' s A B row hs hgr hrow => ?_) (fun l pre x W K hi hK => ?_) (fun l pre x a' W _ _ hi hx hlt => ?_) (fun D xs W hD hs hi hk => ?_) (fun D c pre W _ _ h _ => h.elim)
  · obtain ⟨c, q1, q2⟩ := hs
    exact ⟨c, q1, hRB x c () A B row q2 hgr hrow⟩
  · exact hassign l pre x W K hi (fun c W' q1 q2 q3 q4 a' q5 => hK a' W' q1 q2 q3 ⟨c, q5, q4⟩) _ (hP x a ha)
  · obtain ⟨c, q1, q2⟩ := hx
    exact hbody l pre x c W hi q2 hlt a' q1
  · have := hdone D xs W hD hs hi hk a ha
    rw [ha.defers]
    exact this
end
end Go.Proofs.Ytmnjlnkfihklgaa.E
namespace Go.Proofs.Ytmnjlnkfihklgaa.E
open Go.RowKit Go.Proofs.YtmnjlnkfihklgaaW.PrintWords Go.Proofs.YtmnjlnkfihklgaaW.PrintMore
open Go.Proofs.Ytmnjlnkfihklgaa.T
set_option linter.unusedVariables false
section
variable {P : Program} {Q : Exit → Act → World → Prop} {N : Nat} {w : World} {env : Env} {o : Oper}
end
end Go.Proofs.Ytmnjlnkfihklgaa.E
namespace Go.Proofs.Ytmnjlnkfihklgaa.T
open Go.RowKit Go.Proofs.YtmnjlnkfihklgaaW.PrintWords Go.Proofs.YtmnjlnkfihklgaaW.PrintMore
open Go.Proofs.Ytmnjlnkfihklgaa.P
set_option linter.unusedVariables false
set_option maxRecDepth 100000 in
theorem info_some {t : TypeId} {n : Nat} (h : (Try.prog.info? t).map (·.size) = some n) (hn : n ≠ 0) : E.Sized Try.prog t ∧ Try.prog.cellsOf t = n := by
  cases hq : Try.prog.info? t with
  | none => simp [hq] at h
  | some i =>
    have hs : i.size = n := by simpa [hq] using h
    have hc : Try.prog.cellsOf t = n := by simp [Program.cellsOf, hq, hs]
    exact ⟨⟨i, hq, by rw [hc]; exact hn⟩, hc⟩
theorem blk_cells {w : World} {g : Nat} {t : TypeId} {cs : List Value} (h : w.heap[g]? = some (.cells cs.toArray t (0, 0))) (j : Nat) (v : Value) (hv : cs[j]? = some v) : w.cell? ((⟨g, 0, none⟩ : Addr).add j) = some v := by
  have := blk_cell h j
  rw [Addr.add_mid, Nat.zero_add, this]
  simpa using hv

theorem two_one (a b : Int) : (#[.int .i64 a, .int .i64 b] : Array Value).all (·.oneCell') = true := by simp [Value.oneCell']
theorem three_one (a b c : Int) : (#[.int .i64 a, .int .i64 b, .int .i64 c] : Array Value).all (·.oneCell') = true := by simp [Value.oneCell']
theorem four_one (a b c d : Int) : (#[.int .i64 a, .int .i64 b, .int .i64 c, .int .i64 d] : Array Value).all (·.oneCell') = true := by simp [Value.oneCell']
theorem five_one (a b c d e : Int) : (#[.int .i64 a, .int .i64 b, .int .i64 c, .int .i64 d, .int .i64 e] : Array Value).all (·.oneCell') = true := by simp [Value.oneCell']
theorem info3s : (Try.prog.info? 3).map (·.size) = some 1 := by kernel_rfl
theorem info3z : (Try.prog.info? 3).map (·.zero) = some (some (.int .i64 0)) := by kernel_rfl
theorem info4s : (Try.prog.info? 4).map (·.size) = some 1 := by kernel_rfl
theorem info22s : (Try.prog.info? 22).map (·.size) = some 1 := by kernel_rfl
theorem info23s : (Try.prog.info? 23).map (·.size) = some 1 := by kernel_rfl
theorem info25s : (Try.prog.info? 25).map (·.size) = some 2 := by kernel_rfl
theorem info25z : (Try.prog.info? 25).map (·.zero) = some (some (.agg #[.slice none 0 0, .slice none 0 0])) := by kernel_rfl
theorem info35s : (Try.prog.info? 35).map (·.size) = some 3 := by kernel_rfl
theorem info35z : (Try.prog.info? 35).map (·.zero) = some (some (.agg #[.int .i64 0, .int .i64 0, .int .i64 0])) := by kernel_rfl
theorem info45s : (Try.prog.info? 45).map (·.size) = some 4 := by kernel_rfl
theorem info45z : (Try.prog.info? 45).map (·.zero) = some (some (.agg #[.int .i64 0, .int .i64 0, .int .i64 0, .int .i64 0])) := by kernel_rfl
theorem info72s : (Try.prog.info? 72).map (·.size) = some 2 := by kernel_rfl
theorem info72z : (Try.prog.info? 72).map (·.zero) = some (some (.agg #[.int .i64 0, .int .i64 0])) := by kernel_rfl
theorem info74s : (Try.prog.info? 74).map (·.size) = some 1 := by kernel_rfl
theorem info76s : (Try.prog.info? 76).map (·.size) = some 5 := by kernel_rfl
theorem info96s : (Try.prog.info? 96).map (·.size) = some 1 := by kernel_rfl
theorem info98s : (Try.prog.info? 98).map (·.size) = some 5 := by kernel_rfl
theorem info98z : (Try.prog.info? 98).map (·.zero) = some (some (.agg #[.int .i64 0, .int .i64 0, .int .i64 0, .int .i64 0, .int .i64 0])) := by kernel_rfl
theorem info104s : (Try.prog.info? 104).map (·.size) = some 2 := by kernel_rfl
theorem ent11 (args : Array Value) (W : World) : (callFunc 11 args).run Try.prog W = .ok (.enter 11 args) W := by go_simp
theorem ent12 (args : Array Value) (W : World) : (callFunc 12 args).run Try.prog W = .ok (.enter 12 args) W := by go_simp
theorem ent13 (args : Array Value) (W : World) : (callFunc 13 args).run Try.prog W = .ok (.enter 13 args) W := by go_simp
theorem ent14 (args : Array Value) (W : World) : (callFunc 14 args).run Try.prog W = .ok (.enter 14 args) W := by go_simp
theorem ent15 (args : Array Value) (W : World) : (callFunc 15 args).run Try.prog W = .ok (.enter 15 args) W := by go_simp
theorem ent16 (args : Array Value) (W : World) : (callFunc 16 args).run Try.prog W = .ok (.enter 16 args) W := by go_simp
theorem ent18 (args : Array Value) (W : World) : (callFunc 18 args).run Try.prog W = .ok (.enter 18 args) W := by go_simp
theorem ent19 (args : Array Value) (W : World) : (callFunc 19 args).run Try.prog W = .ok (.enter 19 args) W := by go_simp
theorem ent20 (args : Array Value) (W : World) : (callFunc 20 args).run Try.prog W = .ok (.enter 20 args) W := by go_simp
theorem ent21 (args : Array Value) (W : World) : (callFunc 21 args).run Try.prog W = .ok (.enter 21 args) W := by go_simp
theorem ent23 (args : Array Value) (W : World) : (callFunc 23 args).run Try.prog W = .ok (.enter 23 args) W := by go_simp
theorem ent25 (args : Array Value) (W : World) : (callFunc 25 args).run Try.prog W = .ok (.enter 25 args) W := by go_simp
theorem ent27 (args : Array Value) (W : World) : (callFunc 27 args).run Try.prog W = .ok (.enter 27 args) W := by go_simp
theorem ent28 (args : Array Value) (W : World) : (callFunc 28 args).run Try.prog W = .ok (.enter 28 args) W := by go_simp
theorem ent29 (args : Array Value) (W : World) : (callFunc 29 args).run Try.prog W = .ok (.enter 29 args) W := by go_simp
theorem ent37 (args : Array Value) (W : World) : (callFunc 37 args).run Try.prog W = .ok (.enter 37 args) W := by go_simp
theorem ent38 (args : Array Value) (W : World) : (callFunc 38 args).run Try.prog W = .ok (.enter 38 args) W := by go_simp
theorem ent39 (args : Array Value) (W : World) : (callFunc 39 args).run Try.prog W = .ok (.enter 39 args) W := by go_simp
theorem ent40 (args : Array Value) (W : World) : (callFunc 40 args).run Try.prog W = .ok (.enter 40 args) W := by go_simp
theorem ent41 (args : Array Value) (W : World) : (callFunc 41 args).run Try.prog W = .ok (.enter 41 args) W := by go_simp
theorem ent42 (args : Array Value) (W : World) : (callFunc 42 args).run Try.prog W = .ok (.enter 42 args) W := by go_simp
theorem ent43 (args : Array Value) (W : World) : (callFunc 43 args).run Try.prog W = .ok (.enter 43 args) W := by go_simp
theorem ent44 (args : Array Value) (W : World) : (callFunc 44 args).run Try.prog W = .ok (.enter 44 args) W := by go_simp
theorem ent45 (args : Array Value) (W : World) : (callFunc 45 args).run Try.prog W = .ok (.enter 45 args) W := by go_simp
theorem ent46 (args : Array Value) (W : World) : (callFunc 46 args).run Try.prog W = .ok (.enter 46 args) W := by go_simp
theorem ent47 (args : Array Value) (W : World) : (callFunc 47 args).run Try.prog W = .ok (.enter 47 args) W := by go_simp
theorem ent50 (args : Array Value) (W : World) : (callFunc 50 args).run Try.prog W = .ok (.enter 50 args) W := by go_simp
theorem ent51 (args : Array Value) (W : World) : (callFunc 51 args).run Try.prog W = .ok (.enter 51 args) W := by go_simp
theorem ent53 (args : Array Value) (W : World) : (callFunc 53 args).run Try.prog W = .ok (.enter 53 args) W := by go_simp
theorem ent57 (args : Array Value) (W : World) : (callFunc 57 args).run Try.prog W = .ok (.enter 57 args) W := by go_simp
theorem ent58 (args : Array Value) (W : World) : (callFunc 58 args).run Try.prog W = .ok (.enter 58 args) W := by go_simp
theorem ent59 (args : Array Value) (W : World) : (callFunc 59 args).run Try.prog W = .ok (.enter 59 args) W := by go_simp
theorem ent60 (args : Array Value) (W : World) : (callFunc 60 args).run Try.prog W = .ok (.enter 60 args) W := by go_simp
theorem ent61 (args : Array Value) (W : World) : (callFunc 61 args).run Try.prog W = .ok (.enter 61 args) W := by go_simp
theorem ent64 (args : Array Value) (W : World) : (callFunc 64 args).run Try.prog W = .ok (.enter 64 args) W := by go_simp
end Go.Proofs.Ytmnjlnkfihklgaa.T
namespace Go.Proofs.Ytmnjlnkfihklgaa.T
open Go.RowKit Go.Proofs.YtmnjlnkfihklgaaW.PrintWords Go.Proofs.YtmnjlnkfihklgaaW.PrintMore
open Go.Proofs.Ytmnjlnkfihklgaa.P
set_option linter.unusedVariables false
/-- An edge: from, to, how many, and the passage and the minute that it stands for. -/
structure Ed where
  fr : Nat
  td : Nat
  cap : Int
  up : Int
  um : Int
/-- What flows into a node less what flows out of it; the edges are numbered from k on. -/
def exc (f : Nat → Int) (v : Nat) : List Ed → Nat → Int
  | [], _ => 0
  | e :: r, k => (if e.td = v then f k else 0) - (if e.fr = v then f k else 0) + exc f v r (k + 1)
/-- Sums over nodes. -/
def sumN (g : Nat → Int) : Nat → Int
  | 0 => 0
  | n + 1 => sumN g n + g n
theorem sumN_add (a b : Nat → Int) : ∀ n, sumN (fun v => a v + b v) n = sumN a n + sumN b n
  | 0 => rfl
  | n + 1 => by simp only [sumN, sumN_add a b n]; omega
theorem sumN_sub (a b : Nat → Int) : ∀ n, sumN (fun v => a v - b v) n = sumN a n - sumN b n
  | 0 => rfl
  | n + 1 => by simp only [sumN, sumN_sub a b n]; omega
theorem sumN_congr {a b : Nat → Int} : ∀ {n}, (∀ v, v < n → a v = b v) → sumN a n = sumN b n
  | 0, _ => rfl
  | n + 1, h => by
    have h1 := sumN_congr (a := a) (b := b) (n := n) (fun v hv => h v (by omega))
    have h2 := h n (by omega)
    simp only [sumN]
    omega
theorem sumN_zero : ∀ n, sumN (fun _ => 0) n = 0
  | 0 => rfl
  | n + 1 => by simp only [sumN, sumN_zero n]; omega
theorem sumN_nonneg {a : Nat → Int} : ∀ {n}, (∀ v, v < n → 0 ≤ a v) → 0 ≤ sumN a n
  | 0, _ => by simp [sumN]
  | n + 1, h => by
    have h1 := sumN_nonneg (a := a) (n := n) (fun v hv => h v (by omega))
    have h2 := h n (by omega)
    simp only [sumN]
    omega
/-- A sum over a part of which one term alone counts. -/
theorem sumN_one (T : Nat → Prop) [DecidablePred T] (u : Nat) (x : Int) : ∀ n, sumN (fun v => if T v then (if u = v then x else 0) else 0) n = if u < n ∧ T u then x else 0
  | 0 => by simp [sumN]
  | n + 1 => by
    simp only [sumN, sumN_one T u x n]
    by_cases h1 : u = n
    · subst h1
      by_cases h2 : T u
      · simp [h2]
      · simp [h2]
    · rw [if_neg h1]
      have e2 : (if T n then (0 : Int) else 0) = 0 := by split <;> rfl
      rw [e2, Int.add_zero]
      by_cases q : u < n ∧ T u
      · rw [if_pos q, if_pos ⟨by omega, q.2⟩]
      · rw [if_neg q, if_neg (fun z => q ⟨by omega, z.2⟩)]
/-- What is more or less than one term. -/
theorem sumN_ge {a : Nat → Int} {u : Nat} : ∀ {n}, u < n → (∀ v, v < n → v ≠ u → 0 ≤ a v) → a u ≤ sumN a n
  | 0, h, _ => by omega
  | n + 1, h, h0 => by
    simp only [sumN]
    by_cases e : u = n
    · subst e
      have := sumN_nonneg (a := a) (n := u) (fun v hv => h0 v (by omega) (by omega))
      omega
    · have h1 := sumN_ge (a := a) (u := u) (n := n) (by omega) (fun v hv hne => h0 v (by omega) hne)
      have h2 := h0 n (by omega) (fun q => e q.symm)
      omega
theorem sumN_eq {a : Nat → Int} {u : Nat} : ∀ {n}, u < n → (∀ v, v < n → v ≠ u → a v = 0) → sumN a n = a u
  | 0, h, _ => by omega
  | n + 1, h, h0 => by
    simp only [sumN]
    by_cases e : u = n
    · subst e
      have : sumN a u = 0 := by
        rw [sumN_congr (b := fun _ => 0) (fun v hv => h0 v (by omega) (by omega))]
        exact sumN_zero u
      omega
    · have h1 := sumN_eq (a := a) (u := u) (n := n) (by omega) (fun v hv hne => h0 v (by omega) hne)
      have h2 := h0 n (by omega) (fun q => e q.symm)
      omega
section
variable (S : Nat → Prop) [DecidablePred S]
/-- What flows out of some nodes less what flows into them. -/
def crossF (f : Nat → Int) : List Ed → Nat → Int
  | [], _ => 0
  | e :: r, k => (if S e.fr ∧ ¬ S e.td then f k else 0) - (if ¬ S e.fr ∧ S e.td then f k else 0) + crossF f r (k + 1)
/-- How many can leave some nodes. -/
def capOut : List Ed → Int
  | [] => 0
  | e :: r => (if S e.fr ∧ ¬ S e.td then e.cap else 0) + capOut r
theorem cross_sum (f : Nat → Int) (n : Nat) : ∀ (E : List Ed) (k : Nat), (∀ e ∈ E, e.fr < n ∧ e.td < n) → sumN (fun v => if ¬ S v then exc f v E k else 0) n = crossF S f E k
  | [], k, _ => by
    rw [sumN_congr (b := fun _ => 0) (fun v _ => by simp [exc])]
    exact sumN_zero n
  | e :: r, k, h => by
    have h1 := h e List.mem_cons_self
    have ih := cross_sum f n r (k + 1) (fun x hx => h x (List.mem_cons_of_mem _ hx))
    have e1 : sumN (fun v => if ¬ S v then exc f v (e :: r) k else 0) n = sumN (fun v => if ¬ S v then (if e.td = v then f k else 0) else 0) n - sumN (fun v => if ¬ S v then (if e.fr = v then f k else 0) else 0) n + sumN (fun v => if ¬ S v then exc f v r (k + 1) else 0) n := by
      rw [← sumN_sub, ← sumN_add]
      refine sumN_congr fun v _ => ?_
      simp only [exc]
      by_cases hv : S v
      · simp [hv]
      · simp [hv]
    rw [e1, ih, sumN_one, sumN_one]
    simp only [crossF, h1.1, h1.2, true_and]
    by_cases a : S e.fr <;> by_cases b : S e.td <;> simp [a, b] <;> omega
theorem cross_le (f : Nat → Int) : ∀ (E : List Ed) (k : Nat), (∀ i e, E[i]? = some e → 0 ≤ f (k + i) ∧ (S e.fr → ¬ S e.td → f (k + i) ≤ e.cap)) → crossF S f E k ≤ capOut S E
  | [], k, _ => Int.le_refl _
  | e :: r, k, h => by
    have ih := cross_le f r (k + 1) (fun i x hx => by
      have := h (i + 1) x (by simpa using hx)
      rw [show k + (i + 1) = k + 1 + i by omega] at this
      exact this)
    have h0 := h 0 e rfl
    simp only [crossF, capOut, Nat.add_zero] at *
    by_cases a : S e.fr <;> by_cases b : S e.td <;> simp [a, b] at h0 ⊢ <;> omega
theorem cross_eq (f : Nat → Int) : ∀ (E : List Ed) (k : Nat), (∀ i e, E[i]? = some e → (S e.fr → ¬ S e.td → f (k + i) = e.cap) ∧ (¬ S e.fr → S e.td → f (k + i) = 0)) → crossF S f E k = capOut S E
  | [], k, _ => rfl
  | e :: r, k, h => by
    have ih := cross_eq f r (k + 1) (fun i x hx => by
      have := h (i + 1) x (by simpa using hx)
      rw [show k + (i + 1) = k + 1 + i by omega] at this
      exact this)
    have h0 := h 0 e rfl
    simp only [crossF, capOut, Nat.add_zero] at *
    by_cases a : S e.fr <;> by_cases b : S e.td <;> simp [a, b] at h0 ⊢ <;> omega
/-- No flow is more than what can leave some nodes. -/
theorem flow_le {f : Nat → Int} {n s t : Nat} {E : List Ed} (hE : ∀ e ∈ E, e.fr < n ∧ e.td < n) (hs : S s) (ht : ¬ S t) (htn : t < n) (hx : ∀ v, v < n → v ≠ s → v ≠ t → 0 ≤ exc f v E 0)
    (hf : ∀ i e, E[i]? = some e → 0 ≤ f i ∧ (S e.fr → ¬ S e.td → f i ≤ e.cap)) : exc f t E 0 ≤ capOut S E := by
  have h1 := cross_sum S f n E 0 hE
  have h2 := cross_le S f E 0 (by simpa using hf)
  have h3 := sumN_ge (a := fun v => if ¬ S v then exc f v E 0 else 0) (u := t) htn (fun v hv hne => by
    by_cases q : S v
    · simp [q]
    · simp only [q, not_false_eq_true, if_true]
      exact hx v hv (fun e => q (e ▸ hs)) hne)
  simp only [ht, not_false_eq_true, if_true] at h3
  omega
/-- A flow that fills all that leaves some nodes is just so much. -/
theorem flow_eq {f : Nat → Int} {n s t : Nat} {E : List Ed} (hE : ∀ e ∈ E, e.fr < n ∧ e.td < n) (hs : S s) (ht : ¬ S t) (htn : t < n) (hx : ∀ v, v < n → v ≠ s → v ≠ t → exc f v E 0 = 0)
    (hf : ∀ i e, E[i]? = some e → (S e.fr → ¬ S e.td → f i = e.cap) ∧ (¬ S e.fr → S e.td → f i = 0)) : exc f t E 0 = capOut S E := by
  have h1 := cross_sum S f n E 0 hE
  have h2 := cross_eq S f E 0 (by simpa using hf)
  have h3 := sumN_eq (a := fun v => if ¬ S v then exc f v E 0 else 0) (u := t) htn (fun v hv hne => by
    by_cases q : S v
    · simp [q]
    · simp only [q, not_false_eq_true, if_true]
      exact hx v hv (fun e => q (e ▸ hs)) hne)
  simp only [ht, not_false_eq_true, if_true] at h3
  omega
end
/-- A flow, one edge changed. -/
def upd (f : Nat → Int) (k : Nat) (x : Int) : Nat → Int := fun i => if i = k then f i + x else f i
theorem upd_same (f : Nat → Int) (k : Nat) (x : Int) : upd f k x k = f k + x := by simp [upd]
theorem upd_other (f : Nat → Int) {k i : Nat} (x : Int) (h : i ≠ k) : upd f k x i = f i := by simp [upd, h]
theorem exc_upd (f : Nat → Int) (v : Nat) (x : Int) : ∀ (E : List Ed) (k0 i : Nat) (e : Ed), E[i]? = some e → exc (upd f (k0 + i) x) v E k0 = exc f v E k0 + (if e.td = v then x else 0) - (if e.fr = v then x else 0)
  | [], k0, i, e, h => by simp at h
  | a :: r, k0, 0, e, h => by
    obtain rfl : a = e := by simpa using h
    have : exc (upd f k0 x) v r (k0 + 1) = exc f v r (k0 + 1) := exc_congr v r (k0 + 1) (fun i hi => upd_other f x (by omega))
    simp only [exc, Nat.add_zero, this, upd_same]
    split <;> split <;> omega
  | a :: r, k0, i + 1, e, h => by
    have ih := exc_upd f v x r (k0 + 1) i e (by simpa using h)
    rw [show k0 + 1 + i = k0 + (i + 1) by omega] at ih
    simp only [exc, ih, upd_other f x (show k0 ≠ k0 + (i + 1) by omega)]
    omega
where
  exc_congr {f g : Nat → Int} (v : Nat) : ∀ (E : List Ed) (k : Nat), (∀ i, k ≤ i → f i = g i) → exc f v E k = exc g v E k
    | [], _, _ => rfl
    | e :: r, k, h => by
      simp only [exc, h k (Nat.le_refl _), exc_congr v r (k + 1) (fun i hi => h i (by omega))]
theorem exc_zero (v : Nat) : ∀ (E : List Ed) (k : Nat), exc (fun _ => 0) v E k = 0
  | [], _ => rfl
  | e :: r, k => by simp only [exc, exc_zero v r (k + 1)]; split <;> split <;> omega
/-! #### how the edges lie at the nodes -/
/-- The halves of edges at a node: the edge's number, and whether it is the half from which it leads. -/
def hs (v : Nat) : List Ed → Nat → List (Nat × Bool)
  | [], _ => []
  | e :: r, k => if e.fr = v then (k, true) :: hs v r (k + 1) else if e.td = v then (k, false) :: hs v r (k + 1) else hs v r (k + 1)
theorem hs_append (v : Nat) : ∀ (E F : List Ed) (k : Nat), hs v (E ++ F) k = hs v E k ++ hs v F (k + E.length)
  | [], F, k => by simp [hs]
  | e :: r, F, k => by
    simp only [List.cons_append, hs, hs_append v r F (k + 1), List.length_cons]
    rw [show k + 1 + r.length = k + (r.length + 1) by omega]
    split
    · rfl
    · split <;> rfl
theorem hs_one (v : Nat) (e : Ed) (k : Nat) : hs v [e] k = if e.fr = v then [(k, true)] else if e.td = v then [(k, false)] else [] := by simp only [hs]
/-- Where the half of an edge lies at a node. -/
def idx (E : List Ed) (v k : Nat) : Nat := (hs v (E.take k) 0).length
theorem split_at {E : List Ed} {k : Nat} {e : Ed} (h : E[k]? = some e) : E = E.take k ++ [e] ++ E.drop (k + 1) := by
  obtain ⟨hk, e1⟩ := List.getElem?_eq_some_iff.1 h
  rw [← e1, List.append_assoc, List.singleton_append, ← List.drop_eq_getElem_cons hk, List.take_append_drop]
theorem hs_at {E : List Ed} {v k : Nat} {e : Ed} (h : E[k]? = some e) {b : Bool} (hb : hs v [e] k = [(k, b)]) : (hs v E 0)[idx E v k]? = some (k, b) := by
  obtain ⟨hk, _⟩ := List.getElem?_eq_some_iff.1 h
  conv => lhs; arg 1; rw [split_at h, hs_append, hs_append]
  rw [List.length_take, Nat.min_eq_left (by omega), Nat.zero_add, hb, List.append_assoc, List.getElem?_append_right (by unfold idx; omega)]
  unfold idx
  rw [Nat.sub_self]
  rfl
theorem hs_fr {E : List Ed} {k : Nat} {e : Ed} (h : E[k]? = some e) : (hs e.fr E 0)[idx E e.fr k]? = some (k, true) := hs_at h (by rw [hs_one, if_pos rfl])
theorem hs_to {E : List Ed} {k : Nat} {e : Ed} (h : E[k]? = some e) (hne : e.fr ≠ e.td) : (hs e.td E 0)[idx E e.td k]? = some (k, false) := hs_at h (by rw [hs_one, if_neg hne, if_pos rfl])
theorem hs_mem {v : Nat} : ∀ {E : List Ed} {k0 k : Nat} {b : Bool}, (k, b) ∈ hs v E k0 → ∃ i e, k = k0 + i ∧ E[i]? = some e ∧ ((b = true ∧ e.fr = v) ∨ (b = false ∧ e.td = v ∧ e.fr ≠ v))
  | [], k0, k, b, h => by simp [hs] at h
  | e :: r, k0, k, b, h => by
    have rest : (k, b) ∈ hs v r (k0 + 1) → ∃ i e', k = k0 + i ∧ (e :: r)[i]? = some e' ∧ ((b = true ∧ e'.fr = v) ∨ (b = false ∧ e'.td = v ∧ e'.fr ≠ v)) := fun h => by
      obtain ⟨i, e', h1, h2, h3⟩ := hs_mem h
      exact ⟨i + 1, e', by omega, by simpa using h2, h3⟩
    simp only [hs] at h
    split at h
    · next q =>
      rcases List.mem_cons.mp h with h | h
      · injection h with h1 h2
        subst h1 h2
        exact ⟨0, e, by omega, rfl, .inl ⟨rfl, q⟩⟩
      · exact rest h
    · next q =>
      split at h
      · next z =>
        rcases List.mem_cons.mp h with h | h
        · injection h with h1 h2
          subst h1 h2
          exact ⟨0, e, by omega, rfl, .inr ⟨rfl, z, q⟩⟩
        · exact rest h
      · exact rest h
/-- No edge has two halves at a node: where a half lies tells its place. -/
theorem hs_lt {v : Nat} : ∀ {E : List Ed} {k0 : Nat} {h : Nat × Bool}, h ∈ hs v E k0 → k0 ≤ h.1 ∧ h.1 < k0 + E.length
  | [], k0, h, hm => by simp [hs] at hm
  | e :: r, k0, h, hm => by
    have rest : h ∈ hs v r (k0 + 1) → k0 ≤ h.1 ∧ h.1 < k0 + (e :: r).length := fun hm => by
      have := hs_lt hm
      simp only [List.length_cons]
      omega
    have head : ∀ b, h = (k0, b) → k0 ≤ h.1 ∧ h.1 < k0 + (e :: r).length := fun b q => by
      subst q
      simp
    simp only [hs] at hm
    split at hm
    · rcases List.mem_cons.mp hm with q | q
      · exact head _ q
      · exact rest q
    · split at hm
      · rcases List.mem_cons.mp hm with q | q
        · exact head _ q
        · exact rest q
      · exact rest hm
theorem hs_inj {v : Nat} : ∀ {E : List Ed} {k0 i j : Nat} {k : Nat} {b c : Bool}, (hs v E k0)[i]? = some (k, b) → (hs v E k0)[j]? = some (k, c) → i = j
  | [], k0, i, j, k, b, c, h, _ => by simp [hs] at h
  | e :: r, k0, i, j, k, b, c, h1, h2 => by
    have key : ∀ (x : Bool) (i j : Nat), (((k0, x) :: hs v r (k0 + 1)))[i]? = some (k, b) → (((k0, x) :: hs v r (k0 + 1)))[j]? = some (k, c) → i = j := by
      intro x i j h1 h2
      cases i with
      | zero =>
        cases j with
        | zero => rfl
        | succ j =>
          have e1 : k0 = k := by simpa using congrArg (Option.map Prod.fst) h1
          have := hs_lt (List.mem_of_getElem? (show (hs v r (k0 + 1))[j]? = some (k, c) by simpa using h2))
          simp only at this
          omega
      | succ i =>
        cases j with
        | zero =>
          have e1 : k0 = k := by simpa using congrArg (Option.map Prod.fst) h2
          have := hs_lt (List.mem_of_getElem? (show (hs v r (k0 + 1))[i]? = some (k, b) by simpa using h1))
          simp only at this
          omega
        | succ j => rw [hs_inj (E := r) (show (hs v r (k0 + 1))[i]? = some (k, b) by simpa using h1) (show (hs v r (k0 + 1))[j]? = some (k, c) by simpa using h2)]
    simp only [hs] at h1 h2
    split at h1
    · next q => rw [if_pos q] at h2; exact key _ _ _ h1 h2
    · next q =>
      rw [if_neg q] at h2
      split at h1
      · next z => rw [if_pos z] at h2; exact key _ _ _ h1 h2
      · next z => rw [if_neg z] at h2; exact hs_inj h1 h2
end Go.Proofs.Ytmnjlnkfihklgaa.T
namespace Go.Proofs.Ytmnjlnkfihklgaa.T
open Go.RowKit Go.Proofs.YtmnjlnkfihklgaaW.PrintWords Go.Proofs.YtmnjlnkfihklgaaW.PrintMore
open Go.Proofs.Ytmnjlnkfihklgaa.P
set_option linter.unusedVariables false
def zEd : Ed := ⟨0, 0, 0, 0, 0⟩
/-- What a half of an edge is at its node. -/
def entP (E : List Ed) (f : Nat → Int) (h : Nat × Bool) : S98 :=
  if h.2 then ⟨(E.getD h.1 zEd).td, (E.getD h.1 zEd).cap - f h.1, idx E (E.getD h.1 zEd).td h.1, ⟨(E.getD h.1 zEd).up, (E.getD h.1 zEd).um⟩⟩ else ⟨(E.getD h.1 zEd).fr, f h.1, idx E (E.getD h.1 zEd).fr h.1, ⟨-1, 0⟩⟩
def rowP (E : List Ed) (f : Nat → Int) (v : Nat) : List S98 := (hs v E 0).map (entP E f)
def rowsP (E : List Ed) (f : Nat → Int) (n : Nat) : List (List S98) := (List.range n).map (rowP E f)
theorem rowsP_len (E : List Ed) (f : Nat → Int) (n : Nat) : (rowsP E f n).length = n := by simp [rowsP]
theorem rowsP_get {E : List Ed} {f : Nat → Int} {n v : Nat} (h : v < n) : (rowsP E f n)[v]? = some (rowP E f v) := by simp [rowsP, h]
theorem rowsP_nil (f : Nat → Int) (n : Nat) : rowsP [] f n = List.replicate n [] := by
  apply List.ext_getElem?
  intro i
  by_cases h : i < n
  · rw [rowsP_get h, List.getElem?_replicate, if_pos h]; rfl
  · rw [List.getElem?_eq_none (by rw [rowsP_len]; omega), List.getElem?_eq_none (by simp; omega)]
theorem getD_app {E : List Ed} {e : Ed} {k : Nat} (h : k < E.length) : (E ++ [e]).getD k zEd = E.getD k zEd := by
  simp [List.getD_eq_getElem?_getD, List.getElem?_append_left h]
theorem getD_last {E : List Ed} {e : Ed} : (E ++ [e]).getD E.length zEd = e := by simp [List.getD_eq_getElem?_getD]
theorem idx_app {E : List Ed} {e : Ed} {v k : Nat} (h : k ≤ E.length) : idx (E ++ [e]) v k = idx E v k := by
  unfold idx
  rw [List.take_append_of_le_length h]
theorem idx_all (E : List Ed) (v : Nat) : idx E v E.length = (hs v E 0).length := by
  unfold idx
  rw [List.take_length]
theorem rowP_len (E : List Ed) (f : Nat → Int) (v : Nat) : (rowP E f v).length = (hs v E 0).length := by simp [rowP]
theorem entP_app {E : List Ed} {f : Nat → Int} {e : Ed} {h : Nat × Bool} (hk : h.1 < E.length) : entP (E ++ [e]) f h = entP E f h := by
  unfold entP
  rw [getD_app hk, idx_app (by omega), idx_app (by omega)]
theorem rowP_app {E : List Ed} {f : Nat → Int} {e : Ed} (v : Nat) : rowP (E ++ [e]) f v = rowP E f v ++ (hs v [e] E.length).map (entP (E ++ [e]) f) := by
  unfold rowP
  rw [hs_append, List.map_append, Nat.zero_add]
  congr 1
  apply List.map_congr_left
  intro h hm
  have := hs_lt hm
  exact entP_app (by omega)
/-- What a join appends at first. -/
def fwdP (E : List Ed) (f : Nat → Int) (e : Ed) : S98 := ⟨e.td, e.cap, ((rowP E f e.td).length : Int), ⟨e.up, e.um⟩⟩
def bckP (E : List Ed) (f : Nat → Int) (e : Ed) : S98 := ⟨e.fr, 0, ((rowP E f e.fr).length : Int), ⟨-1, 0⟩⟩
theorem rowP_fr {E : List Ed} {f : Nat → Int} {e : Ed} (hf : f E.length = 0) (hne : e.fr ≠ e.td) : rowP (E ++ [e]) f e.fr = rowP E f e.fr ++ [fwdP E f e] := by
  rw [rowP_app, hs_one, if_pos rfl]
  congr 1
  simp only [List.map_cons, List.map_nil, entP, getD_last, hf, if_true, fwdP, rowP_len, Int.sub_zero, idx_app (Nat.le_refl _), idx_all]
theorem rowP_td {E : List Ed} {f : Nat → Int} {e : Ed} (hf : f E.length = 0) (hne : e.fr ≠ e.td) : rowP (E ++ [e]) f e.td = rowP E f e.td ++ [bckP E f e] := by
  rw [rowP_app, hs_one, if_neg hne, if_pos rfl]
  congr 1
  simp only [List.map_cons, List.map_nil, entP, getD_last, hf, bckP, rowP_len, idx_app (Nat.le_refl _), idx_all]
  rfl
theorem rowP_other {E : List Ed} {f : Nat → Int} {e : Ed} {v : Nat} (h1 : v ≠ e.fr) (h2 : v ≠ e.td) : rowP (E ++ [e]) f v = rowP E f v := by
  rw [rowP_app, hs_one, if_neg (fun q => h1 q.symm), if_neg (fun q => h2 q.symm)]
  simp
/-- The rows behind a join. -/
theorem rowsP_join {E : List Ed} {f : Nat → Int} {e : Ed} {n : Nat} (hf : f E.length = 0) (hne : e.fr ≠ e.td) (h1 : e.fr < n) (h2 : e.td < n) :
    rowsP (E ++ [e]) f n = ((rowsP E f n).set e.fr (rowP E f e.fr ++ [fwdP E f e])).set e.td (rowP E f e.td ++ [bckP E f e]) := by
  apply List.ext_getElem?
  intro v
  by_cases hv : v < n
  · rw [rowsP_get hv]
    by_cases e1 : v = e.td
    · subst e1
      rw [List.getElem?_set_self (by simp [rowsP_len]; omega), rowP_td hf hne]
    · rw [List.getElem?_set_ne (fun q => e1 q.symm)]
      by_cases e2 : v = e.fr
      · subst e2
        rw [List.getElem?_set_self (by simp [rowsP_len]; omega), rowP_fr hf hne]
      · rw [List.getElem?_set_ne (fun q => e2 q.symm), rowsP_get hv, rowP_other e2 e1]
  · rw [List.getElem?_eq_none (by rw [rowsP_len]; omega), List.getElem?_eq_none (by simp [rowsP_len]; omega)]
/-! #### what a push changes -/
/-- The node at which a half lies, and the one to which it leads. -/
def near (e : Ed) (b : Bool) : Nat := if b then e.fr else e.td
def far (e : Ed) (b : Bool) : Nat := if b then e.td else e.fr
/-- How many more can go by a half. -/
def roomP (E : List Ed) (f : Nat → Int) (h : Nat × Bool) : Int := if h.2 then (E.getD h.1 zEd).cap - f h.1 else f h.1
def sgn (b : Bool) (x : Int) : Int := if b then x else -x
theorem getD_at {E : List Ed} {k : Nat} {e : Ed} (h : E[k]? = some e) : E.getD k zEd = e := by simp [List.getD_eq_getElem?_getD, h]
theorem entP_is {E : List Ed} {f : Nat → Int} {k : Nat} {e : Ed} (h : E[k]? = some e) (b : Bool) : entP E f (k, b) = ⟨(far e b : Nat), roomP E f (k, b), (idx E (far e b) k : Nat), if b then ⟨e.up, e.um⟩ else ⟨-1, 0⟩⟩ := by
  unfold entP roomP far
  simp only [getD_at h]
  cases b <;> rfl
theorem room_upd_same {E : List Ed} {f : Nat → Int} {k : Nat} (b : Bool) (x : Int) : roomP E (upd f k (sgn b x)) (k, b) = roomP E f (k, b) - x := by
  unfold roomP sgn
  cases b <;> simp only [upd_same, Bool.false_eq_true, if_true, if_false] <;> omega
theorem room_upd_back {E : List Ed} {f : Nat → Int} {k : Nat} (b : Bool) (x : Int) : roomP E (upd f k (sgn b x)) (k, !b) = roomP E f (k, !b) + x := by
  unfold roomP sgn
  cases b <;> simp only [upd_same, Bool.not_false, Bool.not_true, Bool.false_eq_true, if_true, if_false] <;> omega
theorem room_upd_other {E : List Ed} {f : Nat → Int} {k j : Nat} (b : Bool) (x : Int) (h : j ≠ k) : roomP E (upd f k x) (j, b) = roomP E f (j, b) := by
  unfold roomP
  simp only [upd_other f x h]
theorem entP_upd_other {E : List Ed} {f : Nat → Int} {k j : Nat} (b : Bool) (x : Int) (h : j ≠ k) : entP E (upd f k x) (j, b) = entP E f (j, b) := by
  unfold entP
  simp only [upd_other f x h]
theorem hs_near {E : List Ed} {k : Nat} {e : Ed} (h : E[k]? = some e) (hne : e.fr ≠ e.td) (b : Bool) : (hs (near e b) E 0)[idx E (near e b) k]? = some (k, b) := by
  cases b
  · exact hs_to h hne
  · exact hs_fr h
/-- One row behind a push: the entry of the half is written. -/
theorem rowP_upd {E : List Ed} {f : Nat → Int} {k : Nat} {e : Ed} (h : E[k]? = some e) (hne : e.fr ≠ e.td) (b : Bool) (x : Int) : rowP E (upd f k x) (near e b) = (rowP E f (near e b)).set (idx E (near e b) k) (entP E (upd f k x) (k, b)) := by
  have hk := hs_near h hne b
  have hlt := (List.getElem?_eq_some_iff.1 hk).1
  apply List.ext_getElem?
  intro i
  by_cases e1 : i = idx E (near e b) k
  · subst e1
    rw [List.getElem?_set_self (by rw [rowP_len]; exact hlt)]
    unfold rowP
    rw [List.getElem?_map, hk]
    rfl
  · rw [List.getElem?_set_ne (fun q => e1 q.symm)]
    unfold rowP
    rw [List.getElem?_map, List.getElem?_map]
    cases hi : (hs (near e b) E 0)[i]? with
    | none => rfl
    | some p =>
      obtain ⟨j, c⟩ := p
      simp only [Option.map_some]
      congr 1
      refine entP_upd_other c x (fun q => e1 ?_)
      subst q
      exact hs_inj hi hk
theorem rowP_upd_other {E : List Ed} {f : Nat → Int} {k v : Nat} {e : Ed} (h : E[k]? = some e) (x : Int) (h1 : v ≠ e.fr) (h2 : v ≠ e.td) : rowP E (upd f k x) v = rowP E f v := by
  unfold rowP
  apply List.map_congr_left
  rintro ⟨j, c⟩ hm
  refine entP_upd_other c x (fun q => ?_)
  subst q
  obtain ⟨i, e', q1, q2, q3⟩ := hs_mem hm
  rw [Nat.zero_add] at q1
  subst q1
  rw [h] at q2
  cases q2
  rcases q3 with ⟨_, q⟩ | ⟨_, q, _⟩
  · exact h1 q.symm
  · exact h2 q.symm
theorem near_not (e : Ed) (b : Bool) : near e (!b) = far e b := by cases b <;> rfl
/-- The rows behind a push. -/
theorem rowsP_push {E : List Ed} {f : Nat → Int} {k n : Nat} {e : Ed} (h : E[k]? = some e) (hne : e.fr ≠ e.td) (h1 : e.fr < n) (h2 : e.td < n) (b : Bool) (x : Int) :
    rowsP E (upd f k (sgn b x)) n = ((rowsP E f n).set (near e b) ((rowP E f (near e b)).set (idx E (near e b) k) { entP E f (k, b) with f1 := roomP E f (k, b) - x })).set (far e b) ((rowP E f (far e b)).set (idx E (far e b) k) { entP E f (k, !b) with f1 := roomP E f (k, !b) + x }) := by
  have ea : ({ entP E f (k, b) with f1 := roomP E f (k, b) - x } : S98) = entP E (upd f k (sgn b x)) (k, b) := by
    rw [entP_is h, entP_is h, room_upd_same]
  have eb : ({ entP E f (k, !b) with f1 := roomP E f (k, !b) + x } : S98) = entP E (upd f k (sgn b x)) (k, !b) := by
    rw [entP_is h, entP_is h, room_upd_back]
  have hnf : near e b ≠ far e b := by cases b <;> simp only [near, far, Bool.false_eq_true, if_true, if_false] <;> omega
  have hn : near e b < n := by cases b <;> simp only [near, Bool.false_eq_true, if_true, if_false] <;> omega
  have hf : far e b < n := by cases b <;> simp only [far, Bool.false_eq_true, if_true, if_false] <;> omega
  rw [ea, eb]
  apply List.ext_getElem?
  intro v
  by_cases hv : v < n
  · rw [rowsP_get hv]
    by_cases e1 : v = far e b
    · subst e1
      rw [List.getElem?_set_self (by simp [rowsP_len]; omega)]
      have := rowP_upd (f := f) h hne (!b) (sgn b x)
      rw [near_not] at this
      rw [this]
    · rw [List.getElem?_set_ne (fun q => e1 q.symm)]
      by_cases e2 : v = near e b
      · subst e2
        rw [List.getElem?_set_self (by simp [rowsP_len]; omega), rowP_upd h hne b]
      · rw [List.getElem?_set_ne (fun q => e2 q.symm), rowsP_get hv, rowP_upd_other h]
        · cases b <;> simp only [near, far, Bool.false_eq_true, if_true, if_false] at e1 e2 <;> assumption
        · cases b <;> simp only [near, far, Bool.false_eq_true, if_true, if_false] at e1 e2 <;> assumption
  · rw [List.getElem?_eq_none (by rw [rowsP_len]; omega), List.getElem?_eq_none (by simp [rowsP_len]; omega)]
end Go.Proofs.Ytmnjlnkfihklgaa.T
namespace Go.Proofs.Ytmnjlnkfihklgaa.T
open Go.RowKit Go.Proofs.YtmnjlnkfihklgaaW.PrintWords Go.Proofs.YtmnjlnkfihklgaaW.PrintMore
open Go.Proofs.Ytmnjlnkfihklgaa.P
set_option linter.unusedVariables false
/-- Rows of rows: t is the type of the outer row's cells, e that of the inner rows'. -/
structure Rows {α : Type} (d : Kd α) (e t : Nat) (w : World) (base g : Nat) (xss : List (List α)) (vs : List Value) : Prop where
  len : vs.length = xss.length
  hb : base ≤ g
  blk : w.heap[g]? = some (.cells vs.toArray t (0, 0))
  row : ∀ (i : Nat) (v : Value) (xs : List α), vs[i]? = some v → xss[i]? = some xs → Kd.R d e w base (fun _ => True) v xs
  apart : ∀ (i j : Nat) (v u : Value) (k : Nat), vs[i]? = some v → vs[j]? = some u → v.ownBlock = some k → u.ownBlock = some k → i = j
/-- Blocks of other types are as they were. -/
def CalmT (e t : Nat) (w w' : World) : Prop := ∀ (k : Nat) (cs : Array Value) (q : Nat) (f : Nat × Nat), w.heap[k]? = some (.cells cs q f) → q ≠ e → q ≠ t → w'.heap[k]? = some (.cells cs q f)
theorem CalmT.refl (e t : Nat) (w : World) : CalmT e t w w := fun _ _ _ _ h _ _ => h
theorem CalmT.trans {e t : Nat} {a b c : World} (h : CalmT e t a b) (k : CalmT e t b c) : CalmT e t a c := fun i cs q f hi h1 h2 => k i cs q f (h i cs q f hi h1 h2) h1 h2
theorem CalmT.below {e t : Nat} {w w' : World} (h : Below w.heap.size w w') : CalmT e t w w' := fun k cs q f hk _ _ => (h.block k (Array.getElem?_eq_some_iff.1 hk).1).trans hk
theorem CalmT.row {α : Type} {d : Kd α} {e t base : Nat} {w w' : World} {v : Value} {xs : List α} (h : Kd.R d e w base (fun _ => True) v xs) (hg : w.grownBy w' v.ownBlock) : CalmT e t w w' := fun k cs q f hk h1 _ => (hg.block k (Array.getElem?_eq_some_iff.1 hk).1 (fun ek => by
  obtain ⟨_, inner, ho, _⟩ := h
  obtain ⟨cells, hc⟩ := own_typed ho k ek.symm
  rw [hk] at hc
  cases hc
  exact h1 rfl)).trans hk
theorem CalmT.blk {e t g : Nat} {w w' : World} {cs : Array Value} {q : Nat} {f : Nat × Nat} (h : w.heap[g]? = some (.cells cs q f)) (hq : q = e ∨ q = t) (hg : w.grownBy w' (some g)) : CalmT e t w w' := fun k cs' q' f' hk h1 h2 => (hg.block k (Array.getElem?_eq_some_iff.1 hk).1 (fun ek => by
  injection ek with ek
  subst ek
  rw [h] at hk
  cases hk
  rcases hq with q | q
  · exact h1 q
  · exact h2 q)).trans hk
namespace Rows
section
variable {α : Type} {d : Kd α} {e t : Nat} {w w' : World} {base g : Nat} {xss : List (List α)} {vs : List Value}
theorem below (h : Rows d e t w base g xss vs) (l : Below w.heap.size w w') : Rows d e t w' base g xss vs :=
  ⟨h.len, h.hb, blk_below h.blk l, fun i v xs h1 h2 => Kd.R_below (h.row i v xs h1 h2) l, h.apart⟩
theorem at_ (h : Rows d e t w base g xss vs) {i : Nat} {xs : List α} (hi : xss[i]? = some xs) : ∃ A c, vs[i]? = some (.slice A xs.length c) ∧ Kd.R d e w base (fun _ => True) (.slice A xs.length c) xs := by
  have hlt := (List.getElem?_eq_some_iff.1 hi).1
  have hv : vs[i]? = some (vs[i]'(by rw [h.len]; exact hlt)) := List.getElem?_eq_getElem _
  have hR := h.row i _ xs hv hi
  obtain ⟨A, c, e1⟩ := Kd.R_slice hR
  exact ⟨A, c, by rw [hv, e1], by rw [← e1]; exact hR⟩
theorem cell (h : Rows d e t w base g xss vs) {i : Nat} {v : Value} (hv : vs[i]? = some v) : w.cell? ⟨g, i * 1, none⟩ = some v := by
  rw [Nat.mul_one, blk_cell h.blk]
  simpa using hv
/-- One row is written by its own block. -/
theorem moved (h : Rows d e t w base g xss vs) (hE : d.E = []) (het : e ≠ t) {i : Nat} {v v1 : Value} {xs ys : List α} (hv : vs[i]? = some v) (hx : xss[i]? = some xs) (hg : w.grownBy w' v.ownBlock) (r : Kd.R d e w' base (fun _ => True) v1 ys) (ho : v1.ownBlock = v.ownBlock ∨ ∃ b, v1.ownBlock = some b ∧ w.heap.size ≤ b) :
    w'.heap[g]? = some (.cells vs.toArray t (0, 0)) ∧ (∀ (j : Nat) (u : Value) (zs : List α), j ≠ i → vs[j]? = some u → xss[j]? = some zs → Kd.R d e w' base (fun _ => True) u zs) ∧ (∀ (j : Nat) (u : Value) (k : Nat), j ≠ i → vs[j]? = some u → u.ownBlock = some k → v1.ownBlock ≠ some k) := by
  have R := h.row i v xs hv hx
  refine ⟨blk_grown h.blk hg (Kd.R_ne R h.blk het), fun j u zs hj hu hz => ?_, fun j u k hj hu hk e1 => ?_⟩
  · have hR := h.row j u zs hu hz
    exact Kd.R_mono (Kd.R_grown (Kd.R_tight hE hR) hg (fun k hk ek => hj (h.apart j i u v k hu hv hk.symm ek.symm))) (fun _ _ => trivial)
  · have hlt : j < xss.length := by rw [← h.len]; exact (List.getElem?_eq_some_iff.1 hu).1
    have hR := h.row j u _ hu (List.getElem?_eq_getElem hlt)
    rcases ho with ho | ⟨b, ho, hb⟩
    · exact hj (h.apart j i u v k hu hv hk (ho.symm.trans e1))
    · have := Kd.R_lt hR k hk
      rw [ho] at e1
      injection e1 with e1
      omega
/-- append to one of the rows, and what is stored for it. -/
theorem appended (h : Rows d e t w base g xss vs) (hE : d.E = []) (het : e ≠ t) {i : Nat} {v v1 : Value} {xs ys : List α} (hv : vs[i]? = some v) (hx : xss[i]? = some xs) (hg : w.grownBy w' v.ownBlock) (r : Kd.R d e w' base (fun _ => True) v1 ys) (ho : v1.ownBlock = v.ownBlock ∨ ∃ b, v1.ownBlock = some b ∧ w.heap.size ≤ b) :
    w'.cell? ⟨g, i * 1, none⟩ = some v ∧ w'.frozen? ⟨g, i * 1, none⟩ = false ∧ Rows d e t (w'.setCell ⟨g, i * 1, none⟩ v1) base g (xss.set i ys) (vs.set i v1) ∧ w'.grownBy (w'.setCell ⟨g, i * 1, none⟩ v1) (some g) ∧ w'.heap[g]? = some (.cells vs.toArray t (0, 0)) := by
  obtain ⟨hb, hR, hA⟩ := moved h hE het hv hx hg r ho
  have hlt := (List.getElem?_eq_some_iff.1 hv).1
  have hbs := blk_set hb (i * 1) v1
  have het' : ∀ q, q ∈ e :: d.E → q ≠ t := fun q hq => by
    rw [hE] at hq
    simp at hq
    subst hq
    exact het
  refine ⟨?_, blk_frozen hb _, ⟨by rw [List.length_set, List.length_set, h.len], h.hb, ?_, fun j u zs hu hz => ?_, fun j1 j2 u1 u2 k h1 h2 h3 h4 => ?_⟩, gb_set (World.grownBy.refl _ _) (.inr rfl) _, hb⟩
  · rw [Nat.mul_one, blk_cell hb]
    simpa using hv
  · rw [hbs, Nat.mul_one]
    simp
  · by_cases hj : j = i
    · subst hj
      rw [List.getElem?_set_self hlt] at hu
      rw [List.getElem?_set_self (by rw [← h.len]; exact hlt)] at hz
      cases hu
      cases hz
      exact Kd.R_set r hb het' _ _
    · rw [List.getElem?_set_ne (fun q => hj q.symm)] at hu hz
      exact Kd.R_set (hR j u zs hj hu hz) hb het' _ _
  · by_cases e1 : j1 = i
    · by_cases e2 : j2 = i
      · rw [e1, e2]
      · subst e1
        rw [List.getElem?_set_self hlt] at h1
        cases h1
        rw [List.getElem?_set_ne (fun q => e2 q.symm)] at h2
        exact absurd h3 (hA j2 u2 k e2 h2 h4)
    · rw [List.getElem?_set_ne (fun q => e1 q.symm)] at h1
      by_cases e2 : j2 = i
      · subst e2
        rw [List.getElem?_set_self hlt] at h2
        cases h2
        exact absurd h4 (hA j1 u1 k e1 h1 h3)
      · rw [List.getElem?_set_ne (fun q => e2 q.symm)] at h2
        exact h.apart j1 j2 u1 u2 k h1 h2 h3 h4
/-- A write into one of the rows. -/
theorem written (h : Rows d e t w base g xss vs) (hE : d.E = []) (het : e ≠ t) {i : Nat} {v : Value} {xs ys : List α} (hv : vs[i]? = some v) (hx : xss[i]? = some xs) (hg : w.grownBy w' v.ownBlock) (r : Kd.R d e w' base (fun _ => True) v ys) : Rows d e t w' base g (xss.set i ys) vs := by
  obtain ⟨hb, hR, hA⟩ := moved h hE het hv hx hg r (.inl rfl)
  refine ⟨by rw [List.length_set, h.len], h.hb, hb, fun j u zs hu hz => ?_, h.apart⟩
  by_cases hj : j = i
  · subst hj
    rw [List.getElem?_set_self (by rw [← h.len]; exact (List.getElem?_eq_some_iff.1 hv).1)] at hz
    cases hz
    rw [hv] at hu
    cases hu
    exact r
  · rw [List.getElem?_set_ne (fun q => hj q.symm)] at hz
    exact hR j u zs hj hu hz
end
end Rows
/-- The house and the minutes that a network holds. -/
structure Hd where
  p0 : Value
  p1 : Value
  T : Int
abbrev netC (H : Hd) (gE n : Nat) (out : Int) : List Value := [H.p0, H.p1, .int .i64 H.T, .slice (some ⟨gE, 0, none⟩) n n, .int .i64 out]
/-- A network in memory: the variable of the net itself, its rows of edges. -/
structure Net (w : World) (base gN gE n : Nat) (H : Hd) (out : Int) (E : List Ed) (f : Nat → Int) : Prop where
  hb : base ≤ gN
  blk : w.heap[gN]? = some (.cells (netC H gE n out).toArray 76 (0, 0))
  rows : ∃ vs, Rows k98 98 96 w base gE (rowsP E f n) vs
theorem Net.below {w w' : World} {base gN gE n : Nat} {H : Hd} {out : Int} {E : List Ed} {f : Nat → Int} (h : Net w base gN gE n H out E f) (l : Below w.heap.size w w') : Net w' base gN gE n H out E f := by
  obtain ⟨vs, hR⟩ := h.rows
  exact ⟨h.hb, blk_below h.blk l, vs, hR.below l⟩
end Go.Proofs.Ytmnjlnkfihklgaa.T
namespace Go.Proofs.Ytmnjlnkfihklgaa.E
open Go.RowKit Go.Proofs.YtmnjlnkfihklgaaW.PrintWords Go.Proofs.YtmnjlnkfihklgaaW.PrintMore
open Go.Proofs.Ytmnjlnkfihklgaa.T
set_option linter.unusedVariables false
set_option linter.unusedSimpArgs false
section
variable {P : Program} {Q : Exit → Act → World → Prop} {N : Nat} {w : World} {env : Env} {o : Oper} {K : Value → World → Prop}
theorem Runs.nilCheck {x : Operand} {p : Addr} (ho : o.op = .nilCheck x) (hx : Ev env x (.pointer (some p))) : Runs P N env o w (.pointer (some p)) := fun a w' ha hw => by
  unfold execOp; rw [ho]; simp only []; rw [ha.eval hx]
  simp [go_sem]
/-- make([]T, n), as a block: its cells are told one by one. -/
theorem ST.makeB {t e : TypeId} {x y : Operand} {z : Value} {m : Nat} (ho : o.op = .makeSlice t x y) (hx : Ev env x (.int .i64 (m : Int))) (hy : Ev env y (.int .i64 (m : Int))) (ht : P.underlying t = some (.slice e)) (hinfo : (P.info? e).map (fun i => (i.zero, i.size, i.bytes)) = some (some z, 1, 24)) (hz : z.cells = #[z]) (hm : m ≤ 1000000)
    (h : ∀ g w1, g = w.heap.size → w1.heap[g]? = some (.cells (List.replicate m z).toArray e (0, 0)) → Below w.heap.size w w1 → K (.slice (some ⟨g, 0, none⟩) m m) w1) : ST P Q N env w o K := by
  obtain ⟨i0, hi, hzz⟩ := Option.map_eq_some_iff.1 hinfo
  simp only [Prod.mk.injEq] at hzz
  obtain ⟨hz0, hz1, hz2⟩ := hzz
  have hr := run_make (P := P) w t e i0 z ht hi hz0 .i64 .i64 (m : Int) (m : Int) (by omega) (by omega) (by rw [hz2]; omega) (by omega)
  simp only [Int.toNat_natCast] at hr
  rw [hz1, Nat.mul_one, hz] at hr
  refine ST.ev (v := .slice (some ⟨w.heap.size, 0, none⟩) m m) (w1 := w.alloc (.cells (madeCells #[z] m) e (0, 0))) (fun a ha => ?_) (h _ _ rfl ?_ (below_alloc (Below.refl _ _) _))
  · unfold execOp; rw [ho]; simp only []; rw [ha.eval hx, ha.eval hy]
    simp [go_sem, hr]
  · have : madeCells #[z] m = (List.replicate m z).toArray := by
      apply Array.ext
      · simp [size_madeCells]
      · intro j h1 h2
        simp [madeCells, Nat.mod_one]
    rw [← this]
    exact blk_new w _
/-- make([]T, n), as a row of our own. -/
theorem ST.makeR {α : Type} (d : Kd α) {w0 : World} (base e : Nat) {n0 : Nat} (hd : o.dst = some n0) {t : TypeId} {x y : Operand} (ho : o.op = .makeSlice t x y) {m : Nat} (hx : Ev env x (.int .i64 (m : Int))) (hy : Ev env y (.int .i64 (m : Int))) (ht : P.underlying t = some (.slice e)) (z : Value) (bytes : Nat)
    (hinfo : (P.info? e).map (fun i => (i.zero, i.size, i.bytes)) = some (some z, d.sz, bytes)) (hz : z.cells.size = d.sz) (hs0 : 0 < d.sz) (hb0 : 0 < bytes) (z0 : α) (hzero : d.M w base (fun _ => False) z0 z.cells.toList) (hl : m * bytes ≤ 281474976710656) (HB : Below base w0 w) (hbase : base ≤ w.heap.size)
    (h : ∀ v1 w1, d.R e w1 base (fun _ => True) v1 (List.replicate m z0) → Below base w0 w1 → Below w.heap.size w w1 → (∃ b, v1.ownBlock = some b ∧ w.heap.size ≤ b) → K v1 w1) : ST P Q N env w o K := by
  intro a ha Kc hK
  have h0 : Region.wanted { o with guard := none } (yielded #[] a.tmps) = true := rfl
  have := Kd.R_make_step (P := P) (ops := #[]) (o := { o with guard := none }) (a := a) (W := w) (Q := Q) (Kc := Kc) d (w0 := w0) base e h0 (N := n0) hd t x y ho (m : Int) (ha.eval hx) (ha.eval hy) ht z bytes hinfo hz hs0 hb0 z0 (okp := fun _ => False) (ok := fun _ => True) hzero (fun _ hk => hk.elim) trivial (by omega) (by rw [Int.toNat_natCast]; exact hl) HB hbase
    (fun v1 w1 h1 h2 h3 h4 => hK _ _ (h v1 w1 (by rw [Int.toNat_natCast] at h1; exact h1) h2 (belowG h3) h4))
  rw [if_pos h0] at this
  exact this
/-- append(v, x), v a row that begins inside its block. -/
theorem ST.appendQ {α : Type} (d : Kd α) {w0 : World} (base : Nat) {W : World} {s x : Operand} {t e : TypeId} {z : Value} {bytes : Nat}
    (ho : o.op = .call { callee := .builtin .append, args := #[s, x], argTypes := #[t, t] })
    (ht : P.underlying t = some (.slice e)) (hinfo : (P.info? e).map (fun i => (i.zero, i.size, i.bytes)) = some (some z, d.sz, bytes)) (hz : z.cells.size = d.sz) (hs0 : 0 < d.sz) (hb0 : 0 < bytes)
    {v : Value} {xs : List α} (p : α) {cs : List Value} {ok : Nat → Prop} (hs : Ev env s v) (hx : Ev env x (.slice (some ⟨W.heap.size, 0, none⟩) 1 1)) (hp : d.M W base (fun _ => False) p cs) (hfresh : ∀ k, W.heap.size ≤ k → ok k)
    (HO : d.Q e W base ok v xs) (HB : Below base w0 W) (hbase : base ≤ W.heap.size) (hl : (xs.length + 1) * bytes ≤ 140737488355328)
    (h : ∀ v1 w1, d.Q e w1 base ok v1 (xs ++ [p]) → Below base w0 w1 → W.grownBy w1 v.ownBlock → (v1.ownBlock = v.ownBlock ∨ ∃ b, v1.ownBlock = some b ∧ W.heap.size ≤ b) → K v1 w1) : ST P Q N env (W.alloc (.cells cs.toArray e)) o K := by
  intro a ha Kc hK
  have h0 : Region.wanted { o with guard := none } (yielded #[] a.tmps) = true := rfl
  have := Kd.Q_append_step (P := P) (ops := #[]) (o := { o with guard := none }) (a := a) (Q' := Q) (Kc := Kc) d base h0 s x t e z bytes ho ht hinfo hz hs0 hb0 v xs p cs ok (fun _ => False) (ha.eval hs) (ha.eval hx) hp (fun _ hk => hk.elim) hfresh HO HB hbase hl (fun v1 w1 h1 h2 h3 h4 => hK _ _ (h v1 w1 h1 h2 h3 h4))
  rw [if_pos h0] at this
  exact this
/-- append(v, x), and where the row lies behind it. -/
theorem ST.appendW {α : Type} (d : Kd α) {w0 : World} (base : Nat) {W : World} {s x : Operand} {t e : TypeId} {z : Value} {bytes : Nat}
    (ho : o.op = .call { callee := .builtin .append, args := #[s, x], argTypes := #[t, t] })
    (ht : P.underlying t = some (.slice e)) (hinfo : (P.info? e).map (fun i => (i.zero, i.size, i.bytes)) = some (some z, d.sz, bytes)) (hz : z.cells.size = d.sz) (hs0 : 0 < d.sz) (hb0 : 0 < bytes)
    {v : Value} {xs : List α} (p : α) {cs : List Value} {ok : Nat → Prop} (hs : Ev env s v) (hx : Ev env x (.slice (some ⟨W.heap.size, 0, none⟩) 1 1)) (hp : d.M W base (fun _ => False) p cs) (hfresh : ∀ k, W.heap.size ≤ k → ok k)
    (HO : d.R e W base ok v xs) (HB : Below base w0 W) (hbase : base ≤ W.heap.size) (hl : (xs.length + 1) * bytes ≤ 140737488355328)
    (h : ∀ v1 w1, d.R e w1 base ok v1 (xs ++ [p]) → Below base w0 w1 → W.grownBy w1 v.ownBlock → (v1.ownBlock = v.ownBlock ∨ ∃ b, v1.ownBlock = some b ∧ W.heap.size ≤ b) → K v1 w1) : ST P Q N env (W.alloc (.cells cs.toArray e)) o K := by
  intro a ha Kc hK
  have h0 : Region.wanted { o with guard := none } (yielded #[] a.tmps) = true := rfl
  have := Kd.R_append_step (P := P) (ops := #[]) (o := { o with guard := none }) (a := a) (Q := Q) (Kc := Kc) d base h0 s x t e z bytes ho ht hinfo hz hs0 hb0 v xs p cs ok (fun _ => False) (ha.eval hs) (ha.eval hx) hp (fun _ hk => hk.elim) hfresh HO HB hbase hl (fun v1 w1 h1 h2 h3 h4 => hK _ _ (h v1 w1 h1 h2 h3 h4))
  rw [if_pos h0] at this
  exact this
/-- One cell is written: a truth value, or a slice. -/
theorem ST.storeC {ty : TypeId} {x y : Operand} {b off : Nat} {v old : Value} (ho : o.op = .store ty x y) (hz : Sized P ty) (hz1 : P.cellsOf ty = 1) (hx : Ev env x (.pointer (some ⟨b, off, none⟩))) (hy : Ev env y v) (hv : (∃ t, v = .bool t) ∨ ∃ A n c, v = .slice A n c)
    (h1 : w.cell? ⟨b, off, none⟩ = some old) (h2 : w.frozen? ⟨b, off, none⟩ = false) (h : K undef (w.setCell ⟨b, off, none⟩ v)) : ST P Q N env w o K := by
  intro a ha Kc hK
  have hr : (execOp a.eval o).run P w = .ok .skip (w.setCell ⟨b, off, none⟩ v) := by
    unfold execOp; rw [ho]; simp only []; rw [ha.eval hx, ha.eval hy]
    obtain ⟨inf, q1, q2⟩ := hz
    rcases hv with ⟨t, rfl⟩ | ⟨A, n, c, rfl⟩ <;> simp [go_sem, run_sizeOf w q1, hz1, h1, h2]
  unfold Oper.wp
  rw [hr]
  exact hK _ _ h
end
end Go.Proofs.Ytmnjlnkfihklgaa.E
namespace Go.Proofs.Ytmnjlnkfihklgaa.T
open Go.RowKit Go.Proofs.YtmnjlnkfihklgaaW.PrintWords Go.Proofs.YtmnjlnkfihklgaaW.PrintMore
open Go.Proofs.Ytmnjlnkfihklgaa.P
set_option linter.unusedVariables false
set_option linter.unusedSimpArgs false

set_option maxRecDepth 100000 in
theorem build98 (a b c d e : Int) (W : World) : (Instr.build 98 #[(0, .int .i64 a), (1, .int .i64 b), (2, .int .i64 c), (3, .agg #[.int .i64 d, .int .i64 e])]).run Try.prog W = .ok (.agg #[.int .i64 a, .int .i64 b, .int .i64 c, .int .i64 d, .int .i64 e]) W := by
  have hu3 := Try.underlying3
  have hu72 := Try.underlying72
  have hu98 := Try.underlying98
  go_simp
set_option maxRecDepth 100000 in
theorem build72 (a : Int) (W : World) : (Instr.build 72 #[(0, .int .i64 a)]).run Try.prog W = .ok (.agg #[.int .i64 a, .int .i64 0]) W := by
  have hu3 := Try.underlying3
  have hu72 := Try.underlying72
  go_simp
set_option maxRecDepth 100000 in
theorem lit96 (x : S98) (W : World) : (Instr.buildSlice 96 1 #[(0, .agg #[.int .i64 x.f0, .int .i64 x.f1, .int .i64 x.f2, .int .i64 x.f3.f0, .int .i64 x.f3.f1])]).run Try.prog W = .ok (.slice (some ⟨W.heap.size, 0, none⟩) 1 1) (W.alloc (.cells #[.int .i64 x.f0, .int .i64 x.f1, .int .i64 x.f2, .int .i64 x.f3.f0, .int .i64 x.f3.f1] 98 (0, 0))) := by
  have hu96 := Try.underlying96
  go_simp
theorem info98 : (Try.prog.info? 98).map (fun i => (i.zero, i.size, i.bytes)) = some (some (.agg #[.int .i64 0, .int .i64 0, .int .i64 0, .int .i64 0, .int .i64 0]), 5, 40) := by kernel_rfl
theorem rowP_few (E : List Ed) (f : Nat → Int) (v : Nat) : (rowP E f v).length ≤ E.length := by
  rw [rowP_len]
  have : ∀ (E : List Ed) (k : Nat), (hs v E k).length ≤ E.length := by
    intro E
    induction E with
    | nil => intro k; exact Nat.le_refl _
    | cons e r ih =>
      intro k
      have := ih (k + 1)
      simp only [hs, List.length_cons]
      split
      · simp only [List.length_cons]; omega
      · split
        · simp only [List.length_cons]; omega
        · omega
  exact this E 0
theorem below_step' {base : Nat} {w0 w w' : World} (h : Below base w0 w) (hs : base ≤ w.heap.size) (l : Below w.heap.size w w') : Below base w0 w' := h.trans (l.mono hs)

set_option maxRecDepth 100000 in
set_option maxHeartbeats 8000000 in

theorem join_calls (gN base gE n : Nat) (H : Hd) (out : Int) (Es : List Ed) (f : Nat → Int) (e : Ed) (w0 w : World) (hN : Net w base gN gE n H out Es f) (hB : Below base w0 w) (hsz : base ≤ w.heap.size) (hf : f Es.length = 0) (hne : e.fr ≠ e.td) (hfr : e.fr < n) (htd : e.td < n) (hn : n ≤ 100000) (hE : Es.length ≤ 100000) :
    Calls Try.prog 60 #[.pointer (some ⟨gN, 0, none⟩), .int .i64 e.fr, .int .i64 e.td, .int .i64 e.cap, .agg #[.int .i64 e.up, .int .i64 e.um]] w fun e_ w' => (∃ v, e_ = .returned v) ∧ Net w' base gN gE n H out (Es ++ [e]) f ∧ Below base w0 w' ∧ CalmT 98 96 w w' := by
  have hu3 := Try.underlying3
  have hu72 := Try.underlying72
  have hu74 := Try.underlying74
  have hu76 := Try.underlying76
  have hu96 := Try.underlying96
  have hu98 := Try.underlying98
  obtain ⟨z3, o3⟩ := info_some info3s (by decide)
  obtain ⟨z72, o72⟩ := info_some info72s (by decide)
  obtain ⟨z74, o74⟩ := info_some info74s (by decide)
  obtain ⟨z96, o96⟩ := info_some info96s (by decide)
  have hfr' : (e.fr : Int) < n := by omega
  have htd' : (e.td : Int) < n := by omega
  have hfe := rowP_few Es f e.fr
  have hte := rowP_few Es f e.td
  have hC : CalmT 98 96 w w := CalmT.refl _ _ _
  refine E.enter (N := 64) Try.func60 rfl Try.ntmps60 (args := [.pointer (some ⟨gN, 0, none⟩), .int .i64 e.fr, .int .i64 e.td, .int .i64 e.cap, .agg #[.int .i64 e.up, .int .i64 e.um]]) (by simp) ?_
  have L := Below.refl w.heap.size w
  refine E.CG.seq ?_
  refine E.CG.list ?_
  refine E.GL.st rfl rfl rfl (E.ST.box rfl rfl fun g9 w9 e9 b9 l9 => ?_)
  have h9_L : w.heap.size ≤ g9 := by rw [e9]; exact L.size
  replace L := below_step L l9
  replace hN := hN.below l9
  replace hB := below_step' hB hsz l9
  replace hsz := Nat.le_trans hsz l9.size
  replace hC := hC.trans (CalmT.below l9)
  refine E.GL.done ?_
  refine E.QG.code ?_
  refine E.CG.seq ?_
  obtain ⟨hbN, bN, vs, hR⟩ := hN
  have hbE := hR.hb
  obtain ⟨A1, c1, hv1, R1⟩ := hR.at_ (rowsP_get hfr)
  obtain ⟨A2, c2, hv2, R2⟩ := hR.at_ (rowsP_get htd)
  refine E.CG.heldJ 27 (fun v W => v.grownBy W ((Value.slice A1 (rowP Es f e.fr).length c1).ownBlock)) (fun _ _ => True) (by kernel_rfl) (by kernel_rfl) (fun v => World.grownBy.refl _ _) fun v1 lD => ?_
  replace b9 := blk_below b9 lD
  replace L := below_step L lD
  have lD1 := lD
  clear lD
  replace bN := blk_below bN lD1
  replace hR := hR.below lD1
  replace R1 := Kd.R_below R1 lD1
  replace hB := below_step' hB hsz lD1
  replace hsz := Nat.le_trans hsz lD1.size
  replace hC := hC.trans (CalmT.below lD1)
  have nrN : some gN ≠ (Value.slice A1 (rowP Es f e.fr).length c1).ownBlock := Kd.R_ne R1 bN (by decide)
  have nrE : some gE ≠ (Value.slice A1 (rowP Es f e.fr).length c1).ownBlock := Kd.R_ne R1 hR.blk (by decide)
  have nr9 : some g9 ≠ (Value.slice A1 (rowP Es f e.fr).length c1).ownBlock := Kd.R_ne R1 b9 (by decide)
  have s_b9 := b9
  have s_L := L
  have hh : v1.grownBy v1 ((Value.slice A1 (rowP Es f e.fr).length c1).ownBlock) := World.grownBy.refl _ _
  refine E.GJ.take1 (i := 0) rfl (by kernel_rfl) (by kernel_rfl) (by kernel_rfl) (by kernel_rfl) rfl (by kernel_rfl) (by kernel_rfl) (by intro c a d v w h; cases d <;> exact h) rfl rfl rfl (fun w' hS => (E.Runs.move rfl rfl)) ?_
  refine E.GJ.take1 (i := 1) rfl (by kernel_rfl) (by kernel_rfl) (by kernel_rfl) (by kernel_rfl) rfl (by kernel_rfl) (by kernel_rfl) (by intro c a d v w h; cases d <;> exact h) rfl rfl rfl (fun w' hS => (E.Runs.nilCheck rfl rfl)) ?_
  refine E.GJ.take1 (i := 2) rfl (by kernel_rfl) (by kernel_rfl) (by kernel_rfl) (by kernel_rfl) rfl (by kernel_rfl) (by kernel_rfl) (by intro c a d v w h; cases d <;> exact h) rfl rfl rfl (fun w' hS => (E.Runs.fieldAddr rfl rfl hu76 rfl (by assumption) rfl)) ?_
  refine E.GJ.take1 (i := 3) rfl (by kernel_rfl) (by kernel_rfl) (by kernel_rfl) (by kernel_rfl) rfl (by kernel_rfl) (by kernel_rfl) (by intro c a d v w h; cases d <;> exact h) rfl rfl rfl (fun w' hS => (E.Runs.load1 rfl rfl hu74 rfl (by first | exact E.keeps hS (E.blkc (by assumption) rfl) (by first | exact E.nen | exact E.nes (by assumption) | exact E.nes (Ne.symm (by assumption)) | exact nrN | exact nrE | exact nr9) | exact pw_cell_below (below_step s_L (E.belowG hS)) (by assumption)))) ?_
  refine E.GJ.take1 (i := 4) rfl (by kernel_rfl) (by kernel_rfl) (by kernel_rfl) (by kernel_rfl) rfl (by kernel_rfl) (by kernel_rfl) (by intro c a d v w h; cases d <;> exact h) rfl rfl rfl (fun w' hS => (E.Runs.move rfl rfl)) ?_
  refine E.GJ.take1 (i := 5) rfl (by kernel_rfl) (by kernel_rfl) (by kernel_rfl) (by kernel_rfl) rfl (by kernel_rfl) (by kernel_rfl) (by intro c a d v w h; cases d <;> exact h) rfl rfl rfl (fun w' hS => (E.Runs.move rfl rfl)) ?_
  refine E.GJ.take1 (i := 6) rfl (by kernel_rfl) (by kernel_rfl) (by kernel_rfl) (by kernel_rfl) rfl (by kernel_rfl) (by kernel_rfl) (by intro c a d v w h; cases d <;> exact h) rfl rfl rfl (fun w' hS => (E.Runs.nilCheck rfl rfl)) ?_
  refine E.GJ.take1 (i := 7) rfl (by kernel_rfl) (by kernel_rfl) (by kernel_rfl) (by kernel_rfl) rfl (by kernel_rfl) (by kernel_rfl) (by intro c a d v w h; cases d <;> exact h) rfl rfl rfl (fun w' hS => (E.Runs.fieldAddr rfl rfl hu76 rfl (by assumption) rfl)) ?_
  refine E.GJ.take1 (i := 8) rfl (by kernel_rfl) (by kernel_rfl) (by kernel_rfl) (by kernel_rfl) rfl (by kernel_rfl) (by kernel_rfl) (by intro c a d v w h; cases d <;> exact h) rfl rfl rfl (fun w' hS => (E.Runs.load1 rfl rfl hu74 rfl (by first | exact E.keeps hS (E.blkc (by assumption) rfl) (by first | exact E.nen | exact E.nes (by assumption) | exact E.nes (Ne.symm (by assumption)) | exact nrN | exact nrE | exact nr9) | exact pw_cell_below (below_step s_L (E.belowG hS)) (by assumption)))) ?_
  refine E.GJ.take1 (i := 9) rfl (by kernel_rfl) (by kernel_rfl) (by kernel_rfl) (by kernel_rfl) rfl (by kernel_rfl) (by kernel_rfl) (by intro c a d v w h; cases d <;> exact h) rfl rfl rfl (fun w' hS => (E.Runs.move rfl rfl)) ?_
  refine E.GJ.take1 (i := 10) rfl (by kernel_rfl) (by kernel_rfl) (by kernel_rfl) (by kernel_rfl) rfl (by kernel_rfl) (by kernel_rfl) (by intro c a d v w h; cases d <;> exact h) rfl rfl rfl (fun w' hS => (E.Runs.indexAddrA rfl rfl rfl hu74 z96 o96 hfr' rfl (show _ = (⟨gE, e.fr * 1, none⟩ : Addr) from by rw [Go.Addr.add_mid, Nat.zero_add]))) ?_
  refine E.GJ.take1 (i := 11) rfl (by kernel_rfl) (by kernel_rfl) (by kernel_rfl) (by kernel_rfl) rfl (by kernel_rfl) (by kernel_rfl) (by intro c a d v w h; cases d <;> exact h) rfl rfl rfl (fun w' hS => (E.Runs.load1 rfl rfl hu96 rfl (E.keeps hS (hR.cell hv1) nrE))) ?_
  refine E.GJ.take1 (i := 12) rfl (by kernel_rfl) (by kernel_rfl) (by kernel_rfl) (by kernel_rfl) rfl (by kernel_rfl) (by kernel_rfl) (by intro c a d v w h; cases d <;> exact h) rfl rfl rfl (fun w' hS => (E.Runs.move rfl rfl)) ?_
  refine E.GJ.take1 (i := 13) rfl (by kernel_rfl) (by kernel_rfl) (by kernel_rfl) (by kernel_rfl) rfl (by kernel_rfl) (by kernel_rfl) (by intro c a d v w h; cases d <;> exact h) rfl rfl rfl (fun w' hS => (E.Runs.move rfl rfl)) ?_
  refine E.GJ.take1 (i := 14) rfl (by kernel_rfl) (by kernel_rfl) (by kernel_rfl) (by kernel_rfl) rfl (by kernel_rfl) (by kernel_rfl) (by intro c a d v w h; cases d <;> exact h) rfl rfl rfl (fun w' hS => (E.Runs.move rfl rfl)) ?_
  refine E.GJ.take1 (i := 15) rfl (by kernel_rfl) (by kernel_rfl) (by kernel_rfl) (by kernel_rfl) rfl (by kernel_rfl) (by kernel_rfl) (by intro c a d v w h; cases d <;> exact h) rfl rfl rfl (fun w' hS => (E.Runs.nilCheck rfl rfl)) ?_
  refine E.GJ.take1 (i := 16) rfl (by kernel_rfl) (by kernel_rfl) (by kernel_rfl) (by kernel_rfl) rfl (by kernel_rfl) (by kernel_rfl) (by intro c a d v w h; cases d <;> exact h) rfl rfl rfl (fun w' hS => (E.Runs.fieldAddr rfl rfl hu76 rfl (by assumption) rfl)) ?_
  refine E.GJ.take1 (i := 17) rfl (by kernel_rfl) (by kernel_rfl) (by kernel_rfl) (by kernel_rfl) rfl (by kernel_rfl) (by kernel_rfl) (by intro c a d v w h; cases d <;> exact h) rfl rfl rfl (fun w' hS => (E.Runs.load1 rfl rfl hu74 rfl (by first | exact E.keeps hS (E.blkc (by assumption) rfl) (by first | exact E.nen | exact E.nes (by assumption) | exact E.nes (Ne.symm (by assumption)) | exact nrN | exact nrE | exact nr9) | exact pw_cell_below (below_step s_L (E.belowG hS)) (by assumption)))) ?_
  refine E.GJ.take1 (i := 18) rfl (by kernel_rfl) (by kernel_rfl) (by kernel_rfl) (by kernel_rfl) rfl (by kernel_rfl) (by kernel_rfl) (by intro c a d v w h; cases d <;> exact h) rfl rfl rfl (fun w' hS => (E.Runs.move rfl rfl)) ?_
  refine E.GJ.take1 (i := 19) rfl (by kernel_rfl) (by kernel_rfl) (by kernel_rfl) (by kernel_rfl) rfl (by kernel_rfl) (by kernel_rfl) (by intro c a d v w h; cases d <;> exact h) rfl rfl rfl (fun w' hS => (E.Runs.indexAddrA rfl rfl rfl hu74 z96 o96 htd' rfl (show _ = (⟨gE, e.td * 1, none⟩ : Addr) from by rw [Go.Addr.add_mid, Nat.zero_add]))) ?_
  refine E.GJ.take1 (i := 20) rfl (by kernel_rfl) (by kernel_rfl) (by kernel_rfl) (by kernel_rfl) rfl (by kernel_rfl) (by kernel_rfl) (by intro c a d v w h; cases d <;> exact h) rfl rfl rfl (fun w' hS => (E.Runs.load1 rfl rfl hu96 rfl (E.keeps hS (hR.cell hv2) nrE))) ?_
  refine E.GJ.take1 (i := 21) rfl (by kernel_rfl) (by kernel_rfl) (by kernel_rfl) (by kernel_rfl) rfl (by kernel_rfl) (by kernel_rfl) (by intro c a d v w h; cases d <;> exact h) rfl rfl rfl (fun w' hS => (E.Runs.len rfl rfl hu96)) ?_
  refine E.GJ.take1 (i := 22) rfl (by kernel_rfl) (by kernel_rfl) (by kernel_rfl) (by kernel_rfl) rfl (by kernel_rfl) (by kernel_rfl) (by intro c a d v w h; cases d <;> exact h) rfl rfl rfl (fun w' hS => (E.Runs.loads (cs := [.int .i64 e.up, .int .i64 e.um]) rfl rfl hu72 rfl info72s (blk_cells (blk_grown s_b9 hS nr9)))) ?_
  refine E.GJ.take1 (i := 23) rfl (by kernel_rfl) (by kernel_rfl) (by kernel_rfl) (by kernel_rfl) rfl (by kernel_rfl) (by kernel_rfl) (by intro c a d v w h; cases d <;> exact h) rfl rfl rfl (fun w' hS => (E.Runs.build rfl (E.epc rfl (E.epc rfl (E.epc rfl (E.epc rfl E.epn)))) (build98 _ _ _ _ _))) ?_
  refine E.GJ.one (i := 24) (by kernel_rfl) (E.OJ.st rfl rfl rfl rfl (E.ST.lit rfl (E.epc rfl E.epn) (lit96 (fwdP Es f e)) ⟨(E.SJ.before (by kernel_rfl)).mpr (World.grownBy_alloc _ _ _), ?_⟩))
  refine E.GJ.one (i := 25) (by kernel_rfl) (E.OJ.st rfl rfl rfl rfl (E.ST.appendW k98 base (w0 := w0) (s := .tmp 21) (x := .tmp 34) rfl hu96 info98 rfl (by decide) (by decide) (fwdP Es f e) rfl rfl (k98_mkM _ _ _ _) (fun _ _ => trivial) R1 hB hsz (by omega) fun u35 w35 r35 k35 g35 o35 => ⟨(E.SJ.before (by kernel_rfl)).mpr g35, ?_⟩))
  obtain ⟨hc35, hf35, hR2, hg2, hbl⟩ := hR.appended rfl (by decide) hv1 (rowsP_get hfr) g35 r35 o35
  replace bN := blk_grown bN g35 nrN
  replace hC := hC.trans (CalmT.row R1 g35)
  replace hB := k35
  obtain ⟨A35, c35, hu35⟩ := Kd.R_slice r35
  subst hu35
  refine E.GJ.take1 (i := 26) rfl (by kernel_rfl) (by kernel_rfl) (by kernel_rfl) (by kernel_rfl) rfl (by kernel_rfl) (by kernel_rfl) (by intro c a d v w h; cases d <;> exact h) rfl rfl rfl (fun w' hS => (E.Runs.indexAddrA rfl rfl rfl hu74 z96 o96 hfr' rfl (show _ = (⟨gE, e.fr * 1, none⟩ : Addr) from by rw [Go.Addr.add_mid, Nat.zero_add]))) ?_
  refine E.GJ.one (i := 27) (by kernel_rfl) (E.OJ.sn rfl rfl rfl (E.ST.storeC rfl z96 o96 rfl rfl (.inr ⟨_, _, _, rfl⟩) hc35 hf35 ⟨(E.SJ.behind (by kernel_rfl)).mpr trivial, ?_⟩))
  obtain ⟨wJ1, hwJ1⟩ : ∃ wJ, wJ = World.setCell w35 ⟨gE, e.fr * 1, none⟩ (.slice A35 (rowP Es f e.fr ++ [fwdP Es f e]).length c35) := ⟨_, rfl⟩
  rw [← hwJ1] at hR2 hg2 ⊢
  replace bN := blk_grown bN hg2 (E.nes (blk_ne bN hbl (by decide)))
  replace hC := hC.trans (CalmT.blk hbl (.inr rfl) hg2)
  replace hB := hB.grown hg2 (by have := g35.size; omega) (fun z ez => by cases ez; exact hbE)
  replace hsz : base ≤ wJ1.heap.size := by have := g35.size; have := hg2.size; omega
  clear hR R1 R2 nrN nrE nr9
  have hrow1 : ((rowsP Es f n).set e.fr (rowP Es f e.fr ++ [fwdP Es f e]))[e.fr]? = some (rowP Es f e.fr ++ [fwdP Es f e]) := List.getElem?_set_self (by rw [rowsP_len]; exact hfr)
  have hrow2 : ((rowsP Es f n).set e.fr (rowP Es f e.fr ++ [fwdP Es f e]))[e.td]? = some (rowP Es f e.td) := by rw [List.getElem?_set_ne hne]; exact rowsP_get htd
  refine E.GJ.done (by kernel_rfl) ?_
  refine E.QG.code ?_
  obtain ⟨A2, c2, hw2, S2⟩ := hR2.at_ hrow2
  obtain ⟨A1, c1, hw1, S1⟩ := hR2.at_ hrow1
  refine E.CG.heldJ 27 (fun v W => v.grownBy W ((Value.slice A2 (rowP Es f e.td).length c2).ownBlock)) (fun _ _ => True) (by kernel_rfl) (by kernel_rfl) (fun v => World.grownBy.refl _ _) fun v2 lD => ?_
  have lD2 := lD
  clear lD
  replace bN := blk_below bN lD2
  replace hR2 := hR2.below lD2
  replace hB := below_step' hB hsz lD2
  replace hsz := Nat.le_trans hsz lD2.size
  replace hC := hC.trans (CalmT.below lD2)
  replace S2 := Kd.R_below S2 lD2
  have nrN : some gN ≠ (Value.slice A2 (rowP Es f e.td).length c2).ownBlock := Kd.R_ne S2 bN (by decide)
  have nrE : some gE ≠ (Value.slice A2 (rowP Es f e.td).length c2).ownBlock := Kd.R_ne S2 hR2.blk (by decide)
  have hh : v2.grownBy v2 ((Value.slice A2 (rowP Es f e.td).length c2).ownBlock) := World.grownBy.refl _ _
  refine E.GJ.take1 (i := 0) rfl (by kernel_rfl) (by kernel_rfl) (by kernel_rfl) (by kernel_rfl) rfl (by kernel_rfl) (by kernel_rfl) (by intro c a d v w h; cases d <;> exact h) rfl rfl rfl (fun w' hS => (E.Runs.move rfl rfl)) ?_
  refine E.GJ.take1 (i := 1) rfl (by kernel_rfl) (by kernel_rfl) (by kernel_rfl) (by kernel_rfl) rfl (by kernel_rfl) (by kernel_rfl) (by intro c a d v w h; cases d <;> exact h) rfl rfl rfl (fun w' hS => (E.Runs.nilCheck rfl rfl)) ?_
  refine E.GJ.take1 (i := 2) rfl (by kernel_rfl) (by kernel_rfl) (by kernel_rfl) (by kernel_rfl) rfl (by kernel_rfl) (by kernel_rfl) (by intro c a d v w h; cases d <;> exact h) rfl rfl rfl (fun w' hS => (E.Runs.fieldAddr rfl rfl hu76 rfl (by assumption) rfl)) ?_
  refine E.GJ.take1 (i := 3) rfl (by kernel_rfl) (by kernel_rfl) (by kernel_rfl) (by kernel_rfl) rfl (by kernel_rfl) (by kernel_rfl) (by intro c a d v w h; cases d <;> exact h) rfl rfl rfl (fun w' hS => (E.Runs.load1 rfl rfl hu74 rfl (by first | exact E.keeps hS (E.blkc (by assumption) rfl) (by first | exact E.nen | exact E.nes (by assumption) | exact E.nes (Ne.symm (by assumption)) | exact nrN | exact nrE | exact nr9)))) ?_
  refine E.GJ.take1 (i := 4) rfl (by kernel_rfl) (by kernel_rfl) (by kernel_rfl) (by kernel_rfl) rfl (by kernel_rfl) (by kernel_rfl) (by intro c a d v w h; cases d <;> exact h) rfl rfl rfl (fun w' hS => (E.Runs.move rfl rfl)) ?_
  refine E.GJ.take1 (i := 5) rfl (by kernel_rfl) (by kernel_rfl) (by kernel_rfl) (by kernel_rfl) rfl (by kernel_rfl) (by kernel_rfl) (by intro c a d v w h; cases d <;> exact h) rfl rfl rfl (fun w' hS => (E.Runs.move rfl rfl)) ?_
  refine E.GJ.take1 (i := 6) rfl (by kernel_rfl) (by kernel_rfl) (by kernel_rfl) (by kernel_rfl) rfl (by kernel_rfl) (by kernel_rfl) (by intro c a d v w h; cases d <;> exact h) rfl rfl rfl (fun w' hS => (E.Runs.nilCheck rfl rfl)) ?_
  refine E.GJ.take1 (i := 7) rfl (by kernel_rfl) (by kernel_rfl) (by kernel_rfl) (by kernel_rfl) rfl (by kernel_rfl) (by kernel_rfl) (by intro c a d v w h; cases d <;> exact h) rfl rfl rfl (fun w' hS => (E.Runs.fieldAddr rfl rfl hu76 rfl (by assumption) rfl)) ?_
  refine E.GJ.take1 (i := 8) rfl (by kernel_rfl) (by kernel_rfl) (by kernel_rfl) (by kernel_rfl) rfl (by kernel_rfl) (by kernel_rfl) (by intro c a d v w h; cases d <;> exact h) rfl rfl rfl (fun w' hS => (E.Runs.load1 rfl rfl hu74 rfl (by first | exact E.keeps hS (E.blkc (by assumption) rfl) (by first | exact E.nen | exact E.nes (by assumption) | exact E.nes (Ne.symm (by assumption)) | exact nrN | exact nrE | exact nr9)))) ?_
  refine E.GJ.take1 (i := 9) rfl (by kernel_rfl) (by kernel_rfl) (by kernel_rfl) (by kernel_rfl) rfl (by kernel_rfl) (by kernel_rfl) (by intro c a d v w h; cases d <;> exact h) rfl rfl rfl (fun w' hS => (E.Runs.move rfl rfl)) ?_
  refine E.GJ.take1 (i := 10) rfl (by kernel_rfl) (by kernel_rfl) (by kernel_rfl) (by kernel_rfl) rfl (by kernel_rfl) (by kernel_rfl) (by intro c a d v w h; cases d <;> exact h) rfl rfl rfl (fun w' hS => (E.Runs.indexAddrA rfl rfl rfl hu74 z96 o96 htd' rfl (show _ = (⟨gE, e.td * 1, none⟩ : Addr) from by rw [Go.Addr.add_mid, Nat.zero_add]))) ?_
  refine E.GJ.take1 (i := 11) rfl (by kernel_rfl) (by kernel_rfl) (by kernel_rfl) (by kernel_rfl) rfl (by kernel_rfl) (by kernel_rfl) (by intro c a d v w h; cases d <;> exact h) rfl rfl rfl (fun w' hS => (E.Runs.load1 rfl rfl hu96 rfl (E.keeps hS (hR2.cell hw2) nrE))) ?_
  refine E.GJ.take1 (i := 12) rfl (by kernel_rfl) (by kernel_rfl) (by kernel_rfl) (by kernel_rfl) rfl (by kernel_rfl) (by kernel_rfl) (by intro c a d v w h; cases d <;> exact h) rfl rfl rfl (fun w' hS => (E.Runs.move rfl rfl)) ?_
  refine E.GJ.take1 (i := 13) rfl (by kernel_rfl) (by kernel_rfl) (by kernel_rfl) (by kernel_rfl) rfl (by kernel_rfl) (by kernel_rfl) (by intro c a d v w h; cases d <;> exact h) rfl rfl rfl (fun w' hS => (E.Runs.move rfl rfl)) ?_
  refine E.GJ.take1 (i := 14) rfl (by kernel_rfl) (by kernel_rfl) (by kernel_rfl) (by kernel_rfl) rfl (by kernel_rfl) (by kernel_rfl) (by intro c a d v w h; cases d <;> exact h) rfl rfl rfl (fun w' hS => (E.Runs.nilCheck rfl rfl)) ?_
  refine E.GJ.take1 (i := 15) rfl (by kernel_rfl) (by kernel_rfl) (by kernel_rfl) (by kernel_rfl) rfl (by kernel_rfl) (by kernel_rfl) (by intro c a d v w h; cases d <;> exact h) rfl rfl rfl (fun w' hS => (E.Runs.fieldAddr rfl rfl hu76 rfl (by assumption) rfl)) ?_
  refine E.GJ.take1 (i := 16) rfl (by kernel_rfl) (by kernel_rfl) (by kernel_rfl) (by kernel_rfl) rfl (by kernel_rfl) (by kernel_rfl) (by intro c a d v w h; cases d <;> exact h) rfl rfl rfl (fun w' hS => (E.Runs.load1 rfl rfl hu74 rfl (by first | exact E.keeps hS (E.blkc (by assumption) rfl) (by first | exact E.nen | exact E.nes (by assumption) | exact E.nes (Ne.symm (by assumption)) | exact nrN | exact nrE | exact nr9)))) ?_
  refine E.GJ.take1 (i := 17) rfl (by kernel_rfl) (by kernel_rfl) (by kernel_rfl) (by kernel_rfl) rfl (by kernel_rfl) (by kernel_rfl) (by intro c a d v w h; cases d <;> exact h) rfl rfl rfl (fun w' hS => (E.Runs.move rfl rfl)) ?_
  refine E.GJ.take1 (i := 18) rfl (by kernel_rfl) (by kernel_rfl) (by kernel_rfl) (by kernel_rfl) rfl (by kernel_rfl) (by kernel_rfl) (by intro c a d v w h; cases d <;> exact h) rfl rfl rfl (fun w' hS => (E.Runs.indexAddrA rfl rfl rfl hu74 z96 o96 hfr' rfl (show _ = (⟨gE, e.fr * 1, none⟩ : Addr) from by rw [Go.Addr.add_mid, Nat.zero_add]))) ?_
  refine E.GJ.take1 (i := 19) rfl (by kernel_rfl) (by kernel_rfl) (by kernel_rfl) (by kernel_rfl) rfl (by kernel_rfl) (by kernel_rfl) (by intro c a d v w h; cases d <;> exact h) rfl rfl rfl (fun w' hS => (E.Runs.load1 rfl rfl hu96 rfl (E.keeps hS (hR2.cell hw1) nrE))) ?_
  refine E.GJ.take1 (i := 20) rfl (by kernel_rfl) (by kernel_rfl) (by kernel_rfl) (by kernel_rfl) rfl (by kernel_rfl) (by kernel_rfl) (by intro c a d v w h; cases d <;> exact h) rfl rfl rfl (fun w' hS => (E.Runs.len rfl rfl hu96)) ?_
  refine E.GJ.take1 (i := 21) rfl (by kernel_rfl) (by kernel_rfl) (by kernel_rfl) (by kernel_rfl) rfl (by kernel_rfl) (by kernel_rfl) (by intro c a d v w h; cases d <;> exact h) rfl rfl rfl (fun w' hS => (E.Runs.sub rfl rfl rfl (r := ((rowP Es f e.fr).length : Int)) (by rw [List.length_append, List.length_singleton, Int.natCast_add]; rw [IntWalk.i64_in _ (by omega)]; omega))) ?_
  refine E.GJ.take1 (i := 22) rfl (by kernel_rfl) (by kernel_rfl) (by kernel_rfl) (by kernel_rfl) rfl (by kernel_rfl) (by kernel_rfl) (by intro c a d v w h; cases d <;> exact h) rfl rfl rfl (fun w' hS => (E.Runs.build rfl (E.epc rfl E.epn) (build72 _))) ?_
  refine E.GJ.take1 (i := 23) rfl (by kernel_rfl) (by kernel_rfl) (by kernel_rfl) (by kernel_rfl) rfl (by kernel_rfl) (by kernel_rfl) (by intro c a d v w h; cases d <;> exact h) rfl rfl rfl (fun w' hS => (E.Runs.build rfl (E.epc rfl (E.epc rfl (E.epc rfl (E.epc rfl E.epn)))) (build98 _ _ _ _ _))) ?_
  refine E.GJ.one (i := 24) (by kernel_rfl) (E.OJ.st rfl rfl rfl rfl (E.ST.lit rfl (E.epc rfl E.epn) (lit96 (bckP Es f e)) ⟨(E.SJ.before (by kernel_rfl)).mpr (World.grownBy_alloc _ _ _), ?_⟩))
  refine E.GJ.one (i := 25) (by kernel_rfl) (E.OJ.st rfl rfl rfl rfl (E.ST.appendW k98 base (w0 := w0) (s := .tmp 48) (x := .tmp 61) rfl hu96 info98 rfl (by decide) (by decide) (bckP Es f e) rfl rfl (k98_mkM _ _ _ _) (fun _ _ => trivial) S2 hB hsz (by omega) fun u62 w62 r62 k62 g62 o62 => ⟨(E.SJ.before (by kernel_rfl)).mpr g62, ?_⟩))
  obtain ⟨hc62, hf62, hR3, hg3, hbl3⟩ := hR2.appended rfl (by decide) hw2 hrow2 g62 r62 o62
  replace bN := blk_grown bN g62 nrN
  replace hC := hC.trans (CalmT.row S2 g62)
  replace hB := k62
  obtain ⟨A62, c62, hu62⟩ := Kd.R_slice r62
  subst hu62
  refine E.GJ.take1 (i := 26) rfl (by kernel_rfl) (by kernel_rfl) (by kernel_rfl) (by kernel_rfl) rfl (by kernel_rfl) (by kernel_rfl) (by intro c a d v w h; cases d <;> exact h) rfl rfl rfl (fun w' hS => (E.Runs.indexAddrA rfl rfl rfl hu74 z96 o96 htd' rfl (show _ = (⟨gE, e.td * 1, none⟩ : Addr) from by rw [Go.Addr.add_mid, Nat.zero_add]))) ?_
  refine E.GJ.one (i := 27) (by kernel_rfl) (E.OJ.sn rfl rfl rfl (E.ST.storeC rfl z96 o96 rfl rfl (.inr ⟨_, _, _, rfl⟩) hc62 hf62 ⟨(E.SJ.behind (by kernel_rfl)).mpr trivial, ?_⟩))
  obtain ⟨wJ2, hwJ2⟩ : ∃ wJ, wJ = World.setCell w62 ⟨gE, e.td * 1, none⟩ (.slice A62 (rowP Es f e.td ++ [bckP Es f e]).length c62) := ⟨_, rfl⟩
  rw [← hwJ2] at hR3 hg3 ⊢
  replace bN := blk_grown bN hg3 (E.nes (blk_ne bN hbl3 (by decide)))
  replace hC := hC.trans (CalmT.blk hbl3 (.inr rfl) hg3)
  replace hB := hB.grown hg3 (by have := g62.size; omega) (fun z ez => by cases ez; exact hbE)
  refine E.GJ.done (by kernel_rfl) ?_
  exact E.QG.result_n0 rfl ⟨⟨_, rfl⟩, ⟨hbN, bN, _, by rw [rowsP_join hf hne hfr htd]; exact hR3⟩, hB, hC⟩

end Go.Proofs.Ytmnjlnkfihklgaa.T
namespace Go.Proofs.Ytmnjlnkfihklgaa.T
open Go.RowKit Go.Proofs.YtmnjlnkfihklgaaW.PrintWords Go.Proofs.YtmnjlnkfihklgaaW.PrintMore
open Go.Proofs.Ytmnjlnkfihklgaa.P
set_option linter.unusedVariables false
theorem nodup_len {α : Type} [DecidableEq α] : ∀ {l k : List α}, l.Nodup → (∀ x ∈ l, x ∈ k) → l.length ≤ k.length
  | [], k, _, _ => Nat.zero_le _
  | a :: l, k, h, hs => by
    rw [List.nodup_cons] at h
    have ha := hs a List.mem_cons_self
    have h1 := nodup_len (l := l) (k := k.erase a) h.2 (fun x hx => (List.mem_erase_of_ne (fun e => by subst e; exact h.1 hx)).mpr (hs x (List.mem_cons_of_mem _ hx)))
    rw [List.length_erase_of_mem ha] at h1
    have : 0 < k.length := List.length_pos_of_mem ha
    simp only [List.length_cons]
    omega
theorem nodup_snoc {α : Type} {l : List α} {a : α} (h : l.Nodup) (ha : a ∉ l) : (l ++ [a]).Nodup := by
  induction l with
  | nil => simp
  | cons b l ih =>
    rw [List.nodup_cons] at h
    rw [List.cons_append, List.nodup_cons]
    refine ⟨fun hm => ?_, ih h.2 (fun q => ha (List.mem_cons_of_mem _ q))⟩
    rcases List.mem_append.mp hm with q | q
    · exact h.1 q
    · obtain rfl : b = a := by simpa using q
      exact ha List.mem_cons_self
theorem nodup_inj {α : Type} {l : List α} (h : l.Nodup) {i j : Nat} {a : α} (hi : l[i]? = some a) (hj : l[j]? = some a) : i = j := by
  induction l generalizing i j with
  | nil => simp at hi
  | cons b l ih =>
    rw [List.nodup_cons] at h
    cases i with
    | zero =>
      cases j with
      | zero => rfl
      | succ j =>
        obtain rfl : b = a := by simpa using hi
        exact absurd (List.mem_of_getElem? (show l[j]? = some b by simpa using hj)) h.1
    | succ i =>
      cases j with
      | zero =>
        obtain rfl : b = a := by simpa using hj
        exact absurd (List.mem_of_getElem? (show l[i]? = some b by simpa using hi)) h.1
      | succ j => rw [ih h.2 (show l[i]? = some a by simpa using hi) (show l[j]? = some a by simpa using hj)]
/-- All edges lie between nodes that there are, and none leads back to its own. -/
def EdsOk (E : List Ed) (n : Nat) : Prop := ∀ e ∈ E, e.fr < n ∧ e.td < n ∧ e.fr ≠ e.td
/-- What a half of an edge is. -/
theorem rowP_half {E : List Ed} {f : Nat → Int} {v i : Nat} {x : S98} (h : (rowP E f v)[i]? = some x) : ∃ (k : Nat) (b : Bool) (e : Ed), (hs v E 0)[i]? = some (k, b) ∧ E[k]? = some e ∧ near e b = v ∧ x = entP E f (k, b) := by
  unfold rowP at h
  rw [List.getElem?_map, Option.map_eq_some_iff] at h
  obtain ⟨⟨k, b⟩, h1, h2⟩ := h
  obtain ⟨j, e, q1, q2, q3⟩ := hs_mem (List.mem_of_getElem? h1)
  rw [Nat.zero_add] at q1
  subst q1
  refine ⟨k, b, e, h1, q2, ?_, h2.symm⟩
  rcases q3 with ⟨rfl, q⟩ | ⟨rfl, q, _⟩
  · exact q
  · exact q
theorem far_lt {E : List Ed} {n k : Nat} {e : Ed} (hE : EdsOk E n) (h : E[k]? = some e) (b : Bool) : far e b < n := by
  have := hE e (List.mem_of_getElem? h)
  cases b
  · exact this.1
  · exact this.2.1
theorem rowP_to {E : List Ed} {f : Nat → Int} {n v i : Nat} {x : S98} (hE : EdsOk E n) (h : (rowP E f v)[i]? = some x) : ∃ t : Nat, x.f0 = t ∧ t < n := by
  obtain ⟨k, b, e, h1, h2, h3, rfl⟩ := rowP_half h
  rw [entP_is h2]
  exact ⟨_, rfl, far_lt hE h2 b⟩
/-- What the search has found when it ends. -/
structure ReachOk (E : List Ed) (f : Nat → Int) (n : Nat) (bl : List S104) (il : List Bool) : Prop where
  lb : bl.length = n
  li : il.length = n
  s0 : il[0]? = some true
  closed : ∀ v, v < n → il[v]? = some true → ∀ x ∈ rowP E f v, 0 < x.f1 → ∃ t : Nat, x.f0 = t ∧ il[t]? = some true
  back : ∃ d : Nat → Nat, ∀ v, v < n → v ≠ 0 → il[v]? = some true → ∃ (u i : Nat) (x : S98), bl[v]? = some ⟨u, i⟩ ∧ u < n ∧ il[u]? = some true ∧ (rowP E f u)[i]? = some x ∧ x.f0 = v ∧ 0 < x.f1 ∧ d u < d v
/-- Where the search stands: the nodes that it has found, in order; so many of them are done. -/
structure Bfs (E : List Ed) (f : Nat → Int) (n : Nat) (V : List Nat) (p : Nat) (bl : List S104) (il : List Bool) : Prop where
  nd : V.Nodup
  lt : ∀ x ∈ V, x < n
  v0 : V[0]? = some 0
  pl : p ≤ V.length
  lb : bl.length = n
  li : il.length = n
  is : ∀ v, v < n → (il[v]? = some true ↔ v ∈ V)
  back : ∀ (j v : Nat), V[j]? = some v → 0 < j → ∃ (j' u i : Nat) (x : S98), j' < j ∧ V[j']? = some u ∧ bl[v]? = some ⟨u, i⟩ ∧ (rowP E f u)[i]? = some x ∧ x.f0 = v ∧ 0 < x.f1
  closed : ∀ (j v : Nat), j < p → V[j]? = some v → ∀ x ∈ rowP E f v, 0 < x.f1 → ∃ t : Nat, x.f0 = t ∧ t ∈ V
theorem Bfs.few {E : List Ed} {f : Nat → Int} {n p : Nat} {V : List Nat} {bl : List S104} {il : List Bool} (h : Bfs E f n V p bl il) : V.length ≤ n := by
  have := nodup_len (k := List.range n) h.nd (fun x hx => List.mem_range.mpr (h.lt x hx))
  simpa using this
theorem Bfs.start {E : List Ed} {f : Nat → Int} {n : Nat} (hn : 0 < n) : Bfs E f n [0] 0 (List.replicate n ⟨0, 0⟩) ((List.replicate n false).set 0 true) := by
  refine ⟨by simp, fun x hx => ?_, rfl, Nat.zero_le _, by simp, by simp, fun v hv => ?_, fun j v hj h0 => ?_, fun j v hj => by omega⟩
  · obtain rfl : x = 0 := by simpa using hx
    exact hn
  · by_cases e : v = 0
    · subst e
      simp [hn]
    · rw [List.getElem?_set_ne (fun q => e q.symm), List.getElem?_replicate, if_pos hv]
      simp [e]
  · obtain ⟨j, rfl⟩ : ∃ i, j = i + 1 := ⟨j - 1, by omega⟩
    simp at hj
/-- A node is found. -/
theorem Bfs.found {E : List Ed} {f : Nat → Int} {n p u i t : Nat} {V : List Nat} {bl : List S104} {il : List Bool} {x : S98} (h : Bfs E f n V p bl il) (hu : V[p]? = some u) (hx : (rowP E f u)[i]? = some x) (h0 : x.f0 = t) (ht : t < n) (h1 : 0 < x.f1) (hf : il[t]? = some false) :
    Bfs E f n (V ++ [t]) p (bl.set t ⟨u, i⟩) (il.set t true) := by
  have htV : t ∉ V := fun q => by
    have := (h.is t ht).mpr q
    rw [hf] at this
    cases this
  have hpl := (List.getElem?_eq_some_iff.1 hu).1
  refine ⟨nodup_snoc h.nd htV, fun y hy => ?_, ?_, by simp; omega, by simp [h.lb], by simp [h.li], fun v hv => ?_, fun j v hj hj0 => ?_, fun j v hj hv y hy hy1 => ?_⟩
  · rcases List.mem_append.mp hy with q | q
    · exact h.lt y q
    · obtain rfl : y = t := by simpa using q
      exact ht
  · rw [List.getElem?_append_left (by omega)]
    exact h.v0
  · by_cases e : v = t
    · subst e
      rw [List.getElem?_set_self (by rw [h.li]; exact ht)]
      simp
    · rw [List.getElem?_set_ne (fun q => e q.symm), h.is v hv]
      simp [e]
  · by_cases hlt : j < V.length
    · rw [List.getElem?_append_left hlt] at hj
      obtain ⟨j', u', i', y, q1, q2, q3, q4, q5, q6⟩ := h.back j v hj hj0
      refine ⟨j', u', i', y, q1, ?_, ?_, q4, q5, q6⟩
      · rw [List.getElem?_append_left (by omega)]; exact q2
      · rw [List.getElem?_set_ne (fun q => htV (by subst q; exact List.mem_of_getElem? hj))]
        exact q3
    · rw [List.getElem?_append_right (by omega)] at hj
      have hj2 := (List.getElem?_eq_some_iff.1 hj).1
      simp only [List.length_singleton] at hj2
      rw [show j - V.length = 0 by omega] at hj
      obtain rfl : t = v := by simpa using hj
      refine ⟨p, u, i, x, by omega, ?_, ?_, hx, h0, h1⟩
      · rw [List.getElem?_append_left hpl]; exact hu
      · rw [List.getElem?_set_self (by rw [h.lb]; exact ht)]
  · rw [List.getElem?_append_left (by omega)] at hv
    obtain ⟨z, q1, q2⟩ := h.closed j v hj hv y hy hy1
    exact ⟨z, q1, List.mem_append_left _ q2⟩
/-- A node is done. -/
theorem Bfs.done {E : List Ed} {f : Nat → Int} {n p u : Nat} {V : List Nat} {bl : List S104} {il : List Bool} (h : Bfs E f n V p bl il) (hu : V[p]? = some u) (hc : ∀ x ∈ rowP E f u, 0 < x.f1 → ∃ t : Nat, x.f0 = t ∧ t ∈ V) : Bfs E f n V (p + 1) bl il := by
  have hpl := (List.getElem?_eq_some_iff.1 hu).1
  refine ⟨h.nd, h.lt, h.v0, by omega, h.lb, h.li, h.is, h.back, fun j v hj hv x hx h1 => ?_⟩
  by_cases e : j = p
  · subst e
    rw [hu] at hv
    cases hv
    exact hc x hx h1
  · exact h.closed j v (by omega) hv x hx h1
theorem Bfs.ended {E : List Ed} {f : Nat → Int} {n p : Nat} {V : List Nat} {bl : List S104} {il : List Bool} (h : Bfs E f n V p bl il) (hp : V.length ≤ p) (hn : 0 < n) : ReachOk E f n bl il := by
  refine ⟨h.lb, h.li, (h.is 0 hn).mpr (List.mem_of_getElem? h.v0), fun v hv hi x hx h1 => ?_, fun v => V.idxOf v, fun v hv h0 hi => ?_⟩
  · obtain ⟨j, hj⟩ := List.mem_iff_getElem?.mp ((h.is v hv).mp hi)
    obtain ⟨t, q1, q2⟩ := h.closed j v (by have := (List.getElem?_eq_some_iff.1 hj).1; omega) hj x hx h1
    exact ⟨t, q1, (h.is t (h.lt t q2)).mpr q2⟩
  · obtain ⟨j, hj⟩ := List.mem_iff_getElem?.mp ((h.is v hv).mp hi)
    have hj0 : 0 < j := by
      rcases Nat.eq_zero_or_pos j with e | e
      · subst e
        rw [h.v0] at hj
        exact absurd (Option.some.inj hj).symm h0
      · exact e
    obtain ⟨j', u, i, x, q1, q2, q3, q4, q5, q6⟩ := h.back j v hj hj0
    have hm := List.mem_of_getElem? q2
    have idx_of : ∀ {k : Nat} {a : Nat}, V[k]? = some a → V.idxOf a = k := fun {k a} hk => by
      have h1 : V.idxOf a < V.length := List.idxOf_lt_length_of_mem (List.mem_of_getElem? hk)
      exact nodup_inj h.nd (by rw [List.getElem?_eq_getElem h1, List.getElem_idxOf h1]) hk
    refine ⟨u, i, x, q3, h.lt u hm, (h.is u (h.lt u hm)).mpr hm, q4, q5, q6, ?_⟩
    show V.idxOf u < V.idxOf v
    rw [idx_of q2, idx_of hj]
    exact q1
end Go.Proofs.Ytmnjlnkfihklgaa.T
namespace Go.Proofs.Ytmnjlnkfihklgaa.T
open Go.RowKit Go.Proofs.YtmnjlnkfihklgaaW.PrintWords Go.Proofs.YtmnjlnkfihklgaaW.PrintMore
open Go.Proofs.Ytmnjlnkfihklgaa.P
set_option linter.unusedVariables false
set_option linter.unusedSimpArgs false

theorem over_blk {α : Type} {d : Kd α} {e base g t : Nat} {w w1 : World} {v : Value} {xs : List α} {cs : Array Value} (h : Kd.R d e w base (fun _ => True) v xs) (hb : w.heap[g]? = some (.cells cs t (0, 0))) (hne : e ≠ t) (hE : d.E = []) (hg : w.grownBy w1 (some g)) : Kd.R d e w1 base (fun _ => True) v xs :=
  Kd.R_grown1 h hE hg (Kd.R_ne h hb hne)
theorem bfs_next {l : List S98} {i : Nat} {x : S98} {V : List Nat} (h : ∀ j, j < i → ∀ x, l[j]? = some x → 0 < x.f1 → ∃ t : Nat, x.f0 = t ∧ t ∈ V) (hx : l[i]? = some x) (k : 0 < x.f1 → ∃ t : Nat, x.f0 = t ∧ t ∈ V) : ∀ j, j < i + 1 → ∀ x, l[j]? = some x → 0 < x.f1 → ∃ t : Nat, x.f0 = t ∧ t ∈ V := by
  intro j hj y hy
  by_cases e : j = i
  · subst e
    rw [hx] at hy
    cases hy
    exact k
  · exact h j (by omega) y hy
theorem info4 : (Try.prog.info? 4).map (fun i => (i.zero, i.size, i.bytes)) = some (some (.bool false), 1, 1) := by kernel_rfl

abbrev kI : Kd Int := Kd.int .i64
abbrev kB : Kd Bool := Kd.bool
theorem int_at {w : World} {A : Option Addr} {n : Nat} {xs : List Int} (h : Kd.C kI w A n xs) {i : Nat} {x : Int} (hi : xs[i]? = some x) : ∃ ad, A = some ad ∧ w.cell? (ad.add (i * 1)) = some (.int .i64 x) := by
  have hil : i < xs.length := (List.getElem?_eq_some_iff.1 hi).1
  have hn := Kd.C_len h
  obtain ⟨ad, e, m⟩ := Kd.at_int h (i : Int) (by omega) (by omega)
  refine ⟨ad, e, ?_⟩
  rw [Int.toNat_natCast] at m
  rw [Nat.mul_one, m]
  unfold rd
  simp [List.getD_eq_getElem?_getD, hi]
theorem int_at2 {w : World} {A : Option Addr} {n : Nat} {xs : List Int} (h : Kd.C kI w A n xs) {ad : Addr} (hA : A = some ad) {i : Nat} {x : Int} (hi : xs[i]? = some x) : w.cell? (ad.add (i * 1)) = some (.int .i64 x) := by
  obtain ⟨a, e, m⟩ := int_at h hi
  rw [hA] at e
  cases e
  exact m
theorem two_made (w : World) (base : Nat) (ok : Nat → Prop) (x : S104) : k104.M w base ok x [.int .i64 x.f0, .int .i64 x.f1] := k104_mkM _ _ _ _
theorem rowB_at {W : World} {base : Nat} {A : Option Addr} {n c : Nat} {xs : List Bool} {i : Nat} {s : Bool} (R : Kd.R kB 4 W base (fun _ => True) (.slice A n c) xs) (hs : xs[i]? = some s) :
    ∃ g, A = some ⟨g, 0, none⟩ ∧ base ≤ g ∧ W.cell? ⟨g, i * 1, none⟩ = some (.bool s) ∧ W.frozen? ⟨g, i * 1, none⟩ = false ∧
      (∀ t : Bool, ∃ w', w' = W.setCell ⟨g, i * 1, none⟩ (.bool t) ∧ Kd.R kB 4 w' base (fun _ => True) (.slice A n c) (xs.set i t) ∧ W.grownBy w' (some g)) := by
  have hil : i < xs.length := (List.getElem?_eq_some_iff.1 hs).1
  obtain ⟨g, cap, hv, hb, hl, cells, hc⟩ := Kd.R_form R (by omega)
  have hn := (Kd.R_reads' R).1
  injection hv with hA hn' hc'
  subst hA hc'
  obtain ⟨cs, h1, h2, h3, h4⟩ := Kd.R_elem R false (i : Int) (by omega) (by omega)
  have hx : xs.getD i false = s := by simp [List.getD_eq_getElem?_getD, hs]
  rw [Int.toNat_natCast, hx] at h2
  obtain rfl : cs = [.bool s] := h2
  rw [Int.toNat_natCast] at h3 h4
  refine ⟨g, rfl, hb, h3 0 _ rfl, h4 0, fun t => ⟨_, rfl, ?_⟩⟩
  have := Kd.R_seg R (i : Int) (by omega) (by omega) (seg := [.bool t]) (j := 0) h1 (by rw [Int.toNat_natCast]; exact h3) (by show 0 + 1 ≤ 1; decide) (x' := t) (okp := fun _ => False) (show kB.M _ _ _ t ([.bool t] : List Value) from rfl) (fun _ hk => hk.elim)
  rw [Int.toNat_natCast] at this
  exact this
theorem row104_at {W : World} {base : Nat} {A : Option Addr} {n c : Nat} {xs : List S104} {i : Nat} (R : Kd.R k104 104 W base (fun _ => True) (.slice A n c) xs) (hi : i < xs.length) :
    ∃ g, A = some ⟨g, 0, none⟩ ∧ base ≤ g ∧ W.there g (i * 2) 2 ∧ (∀ s : S104, ∃ w', w' = W.setCells g (i * 2) [.int .i64 s.f0, .int .i64 s.f1] ∧ Kd.R k104 104 w' base (fun _ => True) (.slice A n c) (xs.set i s) ∧ W.grownBy w' (some g)) := by
  obtain ⟨g, cap, hv, hb, hl, cells, hc⟩ := Kd.R_form R (by omega)
  have hn := (Kd.R_reads' R).1
  injection hv with hA hn' hc'
  subst hA hc'
  obtain ⟨cs, h1, h2, h3, h4⟩ := Kd.R_elem R ⟨0, 0⟩ (i : Int) (by omega) (by omega)
  obtain rfl := k104_open (Kd.K_of_M k104 h2)
  rw [Int.toNat_natCast] at h2 h3 h4
  refine ⟨g, rfl, hb, fun j hj => ⟨?_, h4 j⟩, fun s => ⟨_, rfl, ?_⟩⟩
  · rcases j with _ | _ | j
    · rw [show i * 2 + 0 = i * k104.sz + 0 from rfl, h3 0 _ rfl]; rfl
    · rw [show i * 2 + 1 = i * k104.sz + 1 from rfl, h3 1 _ rfl]; rfl
    · omega
  · have := Kd.R_seg R (i : Int) (by omega) (by omega) (seg := [.int .i64 s.f0, .int .i64 s.f1]) (j := 0) h1 (by rw [Int.toNat_natCast]; exact h3) (by show 0 + 2 ≤ 2; decide) (x' := s) (okp := fun _ => False) (k104_mkM _ _ _ s) (fun _ hk => hk.elim)
    rw [Int.toNat_natCast] at this
    exact this
/-- The cells of an entry in a row. -/
theorem entry_at {w : World} {A : Option Addr} {n : Nat} {l : List S98} (h : Kd.C k98 w A n l) {i : Nat} {x : S98} (hi : l[i]? = some x) : ∃ ad, A = some ad ∧ ∀ j u, ([.int .i64 x.f0, .int .i64 x.f1, .int .i64 x.f2, .int .i64 x.f3.f0, .int .i64 x.f3.f1] : List Value)[j]? = some u → w.cell? ((ad.add (i * 5)).add j) = some u := by
  have hil : i < l.length := (List.getElem?_eq_some_iff.1 hi).1
  have hn := Kd.C_len h
  obtain ⟨ad, c, e, _, hK, hc0⟩ := Kd.C_get h x (i : Int) (by omega) (by omega)
  have hx : l.getD i x = x := by simp [List.getD_eq_getElem?_getD, hi]
  rw [Int.toNat_natCast, hx] at hK
  rw [Int.toNat_natCast] at hc0
  obtain rfl := k98_open hK
  refine ⟨ad, e, fun j u hu => ?_⟩
  have := hc0 j u hu
  rw [← this]
  congr 1
  exact add_add _ _ _
/-- A row of numbers that begins inside its block. -/
structure Qw (w : World) (base : Nat) (v : Value) (xs : List Int) : Prop where
  q : Kd.Q kI 3 w base (fun _ => True) v xs
theorem Qw.below {w w' : World} {base : Nat} {v : Value} {xs : List Int} (h : Qw w base v xs) (l : Below w.heap.size w w') : Qw w' base v xs := ⟨Kd.Q_below h.q l⟩
theorem Qw.grown {w w' : World} {base : Nat} {v : Value} {xs : List Int} (h : Qw w base v xs) {g t : Nat} {cs : Array Value} (l : w.grownBy w' (some g)) (hb : w.heap[g]? = some (.cells cs t (0, 0)) ∧ (3 ≠ t)) : Qw w' base v xs := by
  refine ⟨Kd.Q_mono (Kd.Q_step (Kd.Q_bound h.q) (fun k hk hlt => l.block k hlt (fun e => ?_))) (fun _ _ => trivial)⟩
  injection e with e
  subst e
  obtain ⟨_, _, _, q, hq, cells, hc⟩ := hk
  rw [hb.1] at hc
  cases hc
  simp [kI, Kd.int, Kd.scalar] at hq
  exact hb.2 hq.symm
/-- Where the search stands in memory. -/
structure Br where
  V : List Nat
  p : Nat
  bl : List S104
  il : List Bool
  A : Option Addr
  c : Nat
def qsL (V : List Nat) (p : Nat) : List Int := (V.drop p).map fun (x : Nat) => (x : Int)
theorem qsL_at {V : List Nat} {p u : Nat} (h : V[p]? = some u) : (qsL V p)[0]? = some (u : Int) := by
  unfold qsL
  rw [List.getElem?_map, List.getElem?_drop, Nat.add_zero, h]
  rfl
theorem qsL_snoc {V : List Nat} {p t : Nat} (h : p ≤ V.length) : qsL (V ++ [t]) p = qsL V p ++ [(t : Int)] := by
  unfold qsL
  rw [List.drop_append_of_le_length h, List.map_append]
  rfl
theorem qsL_pop (V : List Nat) (p : Nat) : qsL V (p + 1) = (qsL V p).drop 1 := by
  unfold qsL
  rw [← List.map_drop, List.drop_drop]
theorem qsL_len (V : List Nat) (p : Nat) : (qsL V p).length = V.length - p := by unfold qsL; simp
set_option maxRecDepth 100000 in
theorem lit22 (x : Int) (W : World) : (Instr.buildSlice 22 1 #[(0, .int .i64 x)]).run Try.prog W = .ok (.slice (some ⟨W.heap.size, 0, none⟩) 1 1) (W.alloc (.cells #[.int .i64 x] 3 (0, 0))) := by
  have hu22 := Try.underlying22
  go_simp
set_option maxRecDepth 100000 in
theorem build104 (a b : Int) (W : World) : (Instr.build 104 #[(0, .int .i64 a), (1, .int .i64 b)]).run Try.prog W = .ok (.agg #[.int .i64 a, .int .i64 b]) W := by
  have hu3 := Try.underlying3
  have hu104 := Try.underlying104
  go_simp
theorem reps_int1 (W : World) (base : Nat) (x : Int) : Reps (kI.M W base (fun _ => False)) kI.sz [x] [.int .i64 x] := by
  have := Reps.snoc (p := x) (c := [.int .i64 x]) (Reps.none (kI.M W base (fun _ => False)) kI.sz) rfl rfl
  simpa using this
set_option maxRecDepth 100000 in
set_option maxHeartbeats 8000000 in

theorem reach_calls (gN base gE n : Nat) (H : Hd) (out : Int) (Es : List Ed) (f : Nat → Int) (w : World) (hN : Net w base gN gE n H out Es f) (hE : EdsOk Es n) (hn0 : 0 < n) (hn : n ≤ 100000) (hEl : Es.length ≤ 100000) :
    Calls Try.prog 64 #[.pointer (some ⟨gN, 0, none⟩)] w fun e w' => ∃ A1 A2 c1 c2 bl il, e = .returned (.tuple #[.slice A1 n c1, .slice A2 n c2]) ∧ Kd.R k104 104 w' w.heap.size (fun _ => True) (.slice A1 n c1) bl ∧ Kd.R kB 4 w' w.heap.size (fun _ => True) (.slice A2 n c2) il ∧ ReachOk Es f n bl il ∧ Below w.heap.size w w' := by
  have hu3 := Try.underlying3
  have hu4 := Try.underlying4
  have hu22 := Try.underlying22
  have hu74 := Try.underlying74
  have hu76 := Try.underlying76
  have hu96 := Try.underlying96
  have hu98 := Try.underlying98
  have hu99 := Try.underlying99
  have hu100 := Try.underlying100
  have hu104 := Try.underlying104
  obtain ⟨z3, o3⟩ := info_some info3s (by decide)
  obtain ⟨z4, o4⟩ := info_some info4s (by decide)
  obtain ⟨z74, o74⟩ := info_some info74s (by decide)
  obtain ⟨z96, o96⟩ := info_some info96s (by decide)
  obtain ⟨z98, o98⟩ := info_some info98s (by decide)
  obtain ⟨z104, o104⟩ := info_some info104s (by decide)
  obtain ⟨hbN, bN, vs, hR⟩ := hN
  have c3 : w.cell? ⟨gN, 3, none⟩ = some (.slice (some ⟨gE, 0, none⟩) n n) := E.blkc bN rfl
  refine E.enter (N := 74) Try.func64 rfl Try.ntmps64 (args := [.pointer (some ⟨gN, 0, none⟩)]) (by simp) ?_
  have L := Below.refl w.heap.size w
  refine E.CG.seq ?_
  refine E.CG.list ?_
  refine E.GL.run rfl rfl rfl (E.Runs.assign rfl rfl) ?_
  refine E.GL.run rfl rfl rfl (E.Runs.assign rfl rfl) ?_
  refine E.GL.done ?_
  refine E.QG.code ?_
  refine E.CG.seq ?_
  refine E.CG.heldH (none) (by kernel_rfl) fun v1 lD hh => ?_
  replace L := below_step L lD
  clear lD
  have s_L := L
  refine E.GH.take (i := 0) rfl (by kernel_rfl) (by kernel_rfl) (by kernel_rfl) (by intro c a d v w h; cases d <;> exact h) rfl rfl rfl (fun w' hS => (E.Runs.move rfl rfl)) ?_
  refine E.GH.take (i := 1) rfl (by kernel_rfl) (by kernel_rfl) (by kernel_rfl) (by intro c a d v w h; cases d <;> exact h) rfl rfl rfl (fun w' hS => (E.Runs.nilCheck rfl rfl)) ?_
  refine E.GH.take (i := 2) rfl (by kernel_rfl) (by kernel_rfl) (by kernel_rfl) (by intro c a d v w h; cases d <;> exact h) rfl rfl rfl (fun w' hS => (E.Runs.fieldAddr rfl rfl hu76 rfl (by assumption) rfl)) ?_
  refine E.GH.take (i := 3) rfl (by kernel_rfl) (by kernel_rfl) (by kernel_rfl) (by intro c a d v w h; cases d <;> exact h) rfl rfl rfl (fun w' hS => (E.Runs.load1 rfl rfl hu74 rfl (by first | exact E.keeps hS (E.blkc (by assumption) rfl) (by first | exact E.nen | exact nr6 | exact E.nes (by assumption)) | exact pw_cell_below (below_step s_L (E.belowG hS)) (by assumption)))) ?_
  refine E.GH.take (i := 4) rfl (by kernel_rfl) (by kernel_rfl) (by kernel_rfl) (by intro c a d v w h; cases d <;> exact h) rfl rfl rfl (fun w' hS => (E.Runs.len rfl rfl hu74)) ?_
  refine E.GH.take (i := 6) rfl (by kernel_rfl) (by kernel_rfl) (by kernel_rfl) (by intro c a d v w h; cases d <;> exact h) rfl rfl rfl (fun w' hS => (E.Runs.move rfl rfl)) ?_
  refine E.GH.take (i := 7) rfl (by kernel_rfl) (by kernel_rfl) (by kernel_rfl) (by intro c a d v w h; cases d <;> exact h) rfl rfl rfl (fun w' hS => (E.Runs.nilCheck rfl rfl)) ?_
  refine E.GH.take (i := 8) rfl (by kernel_rfl) (by kernel_rfl) (by kernel_rfl) (by intro c a d v w h; cases d <;> exact h) rfl rfl rfl (fun w' hS => (E.Runs.fieldAddr rfl rfl hu76 rfl (by assumption) rfl)) ?_
  refine E.GH.take (i := 9) rfl (by kernel_rfl) (by kernel_rfl) (by kernel_rfl) (by intro c a d v w h; cases d <;> exact h) rfl rfl rfl (fun w' hS => (E.Runs.load1 rfl rfl hu74 rfl (by first | exact E.keeps hS (E.blkc (by assumption) rfl) (by first | exact E.nen | exact nr6 | exact E.nes (by assumption)) | exact pw_cell_below (below_step s_L (E.belowG hS)) (by assumption)))) ?_
  refine E.GH.take (i := 10) rfl (by kernel_rfl) (by kernel_rfl) (by kernel_rfl) (by intro c a d v w h; cases d <;> exact h) rfl rfl rfl (fun w' hS => (E.Runs.len rfl rfl hu74)) ?_
  refine E.GH.all (rs := [5, 11]) (by kernel_rfl) (by simp) (E.GHs.cons rfl ?_ (E.GHs.cons rfl ?_ E.GHs.nil))
  · refine E.GO.st rfl rfl rfl (E.ST.makeR k104 w.heap.size 104 rfl rfl (m := n) rfl rfl hu99 (.agg #[.int .i64 0, .int .i64 0]) 16 info104 rfl (by decide) (by decide) ⟨0, 0⟩ (two_made _ _ _ ⟨0, 0⟩) (by omega) L L.size fun v12 w12 R12 k12 l12 o12 => ⟨hh.trans (E.gbB l12), ?_⟩)
    replace hh := hh.trans (E.gbB l12)
    replace L := below_step L l12
    obtain ⟨A12, c12, hv12⟩ : ∃ A c, v12 = .slice A n c := by obtain ⟨A, c, e⟩ := Kd.R_slice R12; exact ⟨A, c, by rw [e, List.length_replicate]⟩
    subst hv12
    refine E.GH.take (i := 12) rfl (by kernel_rfl) (by kernel_rfl) (by kernel_rfl) (by intro c a d v w h; cases d <;> exact h) rfl rfl rfl (fun w' hS => (E.Runs.assign rfl rfl)) ?_
    refine E.GH.one (i := 11) (by kernel_rfl) rfl ?_
    refine E.GO.st rfl rfl rfl (E.ST.makeR kB w.heap.size 4 rfl rfl (m := n) rfl rfl hu100 (.bool false) 1 info4 rfl (by decide) (by decide) false rfl (by omega) L L.size fun v18 w18 R18 k18 l18 o18 => ⟨hh.trans (E.gbB l18), ?_⟩)
    replace hh := hh.trans (E.gbB l18)
    replace R12 := Kd.R_below R12 l18
    replace L := below_step L l18
    obtain ⟨A18, c18, hv18⟩ : ∃ A c, v18 = .slice A n c := by obtain ⟨A, c, e⟩ := Kd.R_slice R18; exact ⟨A, c, by rw [e, List.length_replicate]⟩
    subst hv18
    refine E.GH.take (i := 13) rfl (by kernel_rfl) (by kernel_rfl) (by kernel_rfl) (by intro c a d v w h; cases d <;> exact h) rfl rfl rfl (fun w' hS => (E.Runs.assign rfl rfl)) ?_
    refine E.GH.done (by kernel_rfl) ?_
    refine E.QG.code ?_
    refine E.CG.seq ?_
    obtain ⟨gI, eI, hgI, cI, fI, stI⟩ := rowB_at R18 (i := 0) (s := false) (by simp [hn0])
    obtain ⟨_, bI⟩ := Kd.R_typed R18 gI (by rw [eI]; rfl)
    refine E.CG.list ?_
    refine E.GL.run rfl rfl rfl (E.Runs.move rfl rfl) ?_
    refine E.GL.run rfl rfl rfl (E.Runs.indexAddrA (i := 0) rfl rfl rfl hu100 z4 o4 (by omega) eI (show _ = (⟨gI, 0 * 1, none⟩ : Addr) from by rw [Go.Addr.add_mid, Nat.zero_add])) ?_
    refine E.GL.sn rfl rfl (E.ST.storeC rfl z4 o4 rfl rfl (.inl ⟨_, rfl⟩) cI fI ?_)
    obtain ⟨wI, hwwI, RJ, gJ⟩ := stI true
    rw [← hwwI]
    replace R12 := over_blk R12 bI (by decide) rfl gJ
    replace L := E.below_own L hgI gJ
    replace R18 := RJ
    clear RJ gJ bI
    refine E.GL.done ?_
    refine E.QG.code ?_
    refine E.CG.seq ?_
    refine E.CG.seq ?_
    refine E.CG.list ?_
    refine E.GL.st rfl rfl rfl (E.ST.litAt kI w.heap.size (w0 := w) (ys := [(0 : Int)]) (inner := [.int .i64 0]) rfl rfl (E.epc rfl E.epn) (lit22 0) (reps_int1 _ _ _) L L.size (by simp) fun v21 w21 r21 k21 l21 n21 => ?_)
    replace R12 := Kd.R_below R12 l21
    replace R18 := Kd.R_below R18 l21
    replace L := below_step L l21
    obtain ⟨A21, c21, hv21⟩ := Kd.R_slice r21
    subst hv21
    have Q21 : Qw _ _ _ _ := ⟨Kd.Q_of_R r21⟩
    clear r21
    refine E.GL.run rfl rfl rfl (E.Runs.assign rfl rfl) ?_
    refine E.GL.done ?_
    refine E.QG.code ?_
    refine E.CG.block ?_
    have s4_L := L
    refine E.CG.loop (fun (s : Br) => [(0, .pointer (some ⟨gN, 0, none⟩)), (2, .slice A12 n c12), (3, .slice A18 n c18), (4, .slice s.A (qsL s.V s.p).length s.c)]) (fun s w' => Bfs Es f n s.V s.p s.bl s.il ∧ Kd.R k104 104 w' w.heap.size (fun _ => True) (.slice A12 n c12) s.bl ∧ Kd.R kB 4 w' w.heap.size (fun _ => True) (.slice A18 n c18) s.il ∧ Qw w' w.heap.size (.slice s.A (qsL s.V s.p).length s.c) (qsL s.V s.p) ∧ Below w.heap.size w w') (fun s => n - s.p) ⟨[0], 0, List.replicate n ⟨0, 0⟩, (List.replicate n false).set 0 true, A21, c21⟩ (E.subc rfl (E.subc rfl (E.subc rfl (E.subc rfl E.subn)))) ⟨Bfs.start hn0, R12, R18, Q21, L⟩ ?_
    rintro s w4 ⟨hB0, R12, R18, Q21, L⟩
    refine E.CG.seq ?_
    refine E.CG.seq ?_
    refine E.CG.list ?_
    refine E.GL.run rfl rfl rfl (E.Runs.move rfl rfl) ?_
    refine E.GL.run rfl rfl rfl (E.Runs.len rfl rfl hu22) ?_
    refine E.GL.cmp rfl rfl rfl (fun _ h => (E.Runs.gtr rfl rfl rfl h)) (fun h24 => ?_) (fun h24 => ?_)
    · have hB := hB0
      obtain ⟨u, hu⟩ : ∃ u, s.V[s.p]? = some u := ⟨_, List.getElem?_eq_getElem (by rw [qsL_len] at h24; omega)⟩
      have hqp := (List.getElem?_eq_some_iff.1 hu).1
      obtain ⟨_, hqc, Cq⟩ := Kd.Q_reads' Q21.q
      obtain ⟨aq, eQ, qc⟩ := int_at Cq (qsL_at hu)
      have hul := hB.lt u (List.mem_of_getElem? hu)
      have hun : (u : Int) < n := by omega
      obtain ⟨Au, cu, hvu, Ru⟩ := hR.at_ (rowsP_get hul)
      obtain ⟨_, _, Cu⟩ := Kd.R_reads' Ru
      have hre := rowP_few Es f u
      refine E.GL.done ?_
      refine E.QG.code ?_
      refine E.CG.cond_t rfl ?_
      refine E.CG.skip ?_
      refine E.QG.code ?_
      refine E.CG.seq ?_
      refine E.CG.block ?_
      refine E.CG.seq ?_
      refine E.CG.quietF (by kernel_rfl) rfl (by kernel_rfl) (by kernel_rfl) ?_
      refine E.GQ.run rfl rfl rfl (E.Runs.move rfl rfl) ?_
      refine E.GQ.run rfl rfl rfl (E.Runs.nilCheck rfl rfl) ?_
      refine E.GQ.run rfl rfl rfl (E.Runs.fieldAddr rfl rfl hu76 rfl (by assumption) rfl) ?_
      refine E.GQ.run rfl rfl rfl (E.Runs.load1 rfl rfl hu74 rfl (by first | assumption | exact E.blkc (by assumption) rfl | exact pw_cell_below L (by assumption))) ?_
      refine E.GQ.run rfl rfl rfl (E.Runs.move rfl rfl) ?_
      refine E.GQ.run rfl rfl rfl (E.Runs.indexAddrA (i := 0) rfl rfl rfl hu22 z3 o3 (by rw [qsL_len]; omega) eQ rfl) ?_
      refine E.GQ.run rfl rfl rfl (E.Runs.load rfl rfl hu3 qc) ?_
      refine E.GQ.run rfl rfl rfl (E.Runs.indexAddrA rfl rfl rfl hu74 z96 o96 hun rfl (show _ = (⟨gE, u * 1, none⟩ : Addr) from by rw [Go.Addr.add_mid, Nat.zero_add])) ?_
      refine E.GQ.run rfl rfl rfl (E.Runs.load1 rfl rfl hu96 rfl (pw_cell_below L (hR.cell hvu))) ?_
      refine E.GQ.run rfl rfl rfl (E.Runs.len rfl rfl hu96) ?_
      refine E.GQ.run rfl rfl rfl (E.Runs.move rfl rfl) ?_
      refine E.GQ.doneB fun v6 lD => ?_
      replace R12 := Kd.R_below R12 lD
      replace R18 := Kd.R_below R18 lD
      replace Q21 := Q21.below lD
      replace L := below_step L lD
      clear lD
      refine E.QG.code ?_
      refine E.CG.block ?_
      have s7_L := L
      refine E.CG.loop2 (fun (i : Nat) (s2 : Br) => [(0, .pointer (some ⟨gN, 0, none⟩)), (2, .slice A12 n c12), (3, .slice A18 n c18), (4, .slice s2.A (qsL s2.V s2.p).length s2.c), (35, .slice Au (rowP Es f u).length cu), (36, .int .i64 (rowP Es f u).length), (37, .int .i64 i)]) (fun i s2 w' => i ≤ (rowP Es f u).length ∧ s2.p = s.p ∧ s2.V[s2.p]? = some u ∧ (∀ j, j < i → ∀ x, (rowP Es f u)[j]? = some x → 0 < x.f1 → ∃ t : Nat, x.f0 = t ∧ t ∈ s2.V) ∧ Bfs Es f n s2.V s2.p s2.bl s2.il ∧ Kd.R k104 104 w' w.heap.size (fun _ => True) (.slice A12 n c12) s2.bl ∧ Kd.R kB 4 w' w.heap.size (fun _ => True) (.slice A18 n c18) s2.il ∧ Qw w' w.heap.size (.slice s2.A (qsL s2.V s2.p).length s2.c) (qsL s2.V s2.p) ∧ Below w.heap.size w w') (fun i s2 => (rowP Es f u).length - i) 0 s (E.subc rfl (E.subc rfl (E.subc rfl (E.subc rfl (E.subc rfl (E.subc rfl (E.subc rfl E.subn))))))) ⟨Nat.zero_le _, rfl, hu, fun j hj => by omega, hB, R12, R18, Q21, L⟩ ?_
      rintro i s2 w7 ⟨hi, hp2, hu2, hcl, hB2, R12, R18, Q21, L⟩
      refine E.CG.seq ?_
      refine E.CG.list ?_
      refine E.GL.cmp rfl rfl rfl (fun _ h => (E.Runs.lss rfl rfl rfl h)) (fun h38 => ?_) (fun h38 => ?_)
      · obtain ⟨x, hx⟩ : ∃ x, (rowP Es f u)[i]? = some x := ⟨_, List.getElem?_eq_getElem (by omega)⟩
        obtain ⟨t, ht0, htn⟩ := rowP_to hE hx
        obtain ⟨x0, x1, x2, x3⟩ := x
        obtain rfl : x0 = (t : Int) := ht0
        obtain ⟨ad, eA, hxc⟩ := entry_at Cu hx
        have hil : (i : Int) < (rowP Es f u).length := by omega
        have htl : (t : Int) < n := by omega
        refine E.GL.done ?_
        refine E.QG.code ?_
        refine E.CG.seq ?_
        refine E.CG.cond_t rfl ?_
        refine E.CG.skip ?_
        refine E.QG.code ?_
        refine E.CG.seq ?_
        refine E.CG.block ?_
        refine E.CG.seq ?_
        refine E.CG.list ?_
        refine E.GL.run rfl rfl rfl (E.Runs.move rfl rfl) ?_
        refine E.GL.run rfl rfl rfl (E.Runs.indexAddrA rfl rfl rfl hu96 z98 o98 hil eA rfl) ?_
        refine E.GL.run rfl rfl rfl (E.Runs.loads (cs := [.int .i64 (t : Int), .int .i64 x1, .int .i64 x2, .int .i64 x3.f0, .int .i64 x3.f1]) rfl rfl hu98 rfl info98s (fun j v hv => pw_cell_below L (hxc j v hv))) ?_
        refine E.GL.st rfl rfl rfl (E.ST.alloc rfl info98z fun g6 w6 e6 b6 l6 => ?_)
        have h6_L : w.heap.size ≤ g6 := by rw [e6]; exact L.size
        have n6_R12 : some g6 ≠ ((Value.slice A12 n c12)).ownBlock := fun h => by have := Kd.R_lt R12 _ h.symm; omega
        have n6_R18 : some g6 ≠ ((Value.slice A18 n c18)).ownBlock := fun h => by have := Kd.R_lt R18 _ h.symm; omega
        replace R12 := Kd.R_below R12 l6
        replace R18 := Kd.R_below R18 l6
        replace Q21 := Q21.below l6
        replace L := below_step L l6
        refine E.GL.run rfl rfl rfl (E.Runs.assign rfl rfl) ?_
        refine E.GL.store_whole rfl rfl rfl rfl rfl b6 rfl info98s (five_one _ _ _ _ _) fun wS8_5 c6 lS8_5 => ?_
        replace R12 := Kd.R_grown1 R12 rfl lS8_5 (by first | assumption | exact Kd.R_ne R12 b6 (by decide))
        replace R18 := Kd.R_grown1 R18 rfl lS8_5 (by first | assumption | exact Kd.R_ne R18 b6 (by decide))
        replace Q21 := Q21.grown lS8_5 ⟨b6, by decide⟩
        replace L := E.below_own L h6_L lS8_5
        replace b6 := c6
        clear c6
        refine E.GL.done ?_
        refine E.QG.code ?_
        refine E.CG.seq ?_
        refine E.CG.list ?_
        refine E.GL.run rfl rfl rfl (E.Runs.fieldAddr rfl rfl hu98 rfl (by assumption) rfl) ?_
        refine E.GL.run rfl rfl rfl (E.Runs.load rfl rfl hu3 (by first | assumption | exact E.blkc (by assumption) rfl | exact pw_cell_below L (by assumption))) ?_
        refine E.GL.cmp rfl rfl rfl (fun _ h => (E.Runs.gtr rfl rfl rfl h)) (fun h44 => ?_) (fun h44 => ?_)
        · obtain ⟨bt, hbt⟩ : ∃ b, s2.il[t]? = some b := ⟨_, List.getElem?_eq_getElem (by rw [hB2.li]; exact htn)⟩
          obtain ⟨gI2, eI2, hgI2, cI2, fI2, stI2⟩ := rowB_at R18 hbt
          refine E.GL.run rfl rfl rfl (E.Runs.move rfl rfl) ?_
          refine E.GL.run rfl rfl rfl (E.Runs.move rfl rfl) ?_
          refine E.GL.run rfl rfl rfl (E.Runs.fieldAddr rfl rfl hu98 rfl (by assumption) rfl) ?_
          refine E.GL.run rfl rfl rfl (E.Runs.load rfl rfl hu3 (by first | assumption | exact E.blkc (by assumption) rfl | exact pw_cell_below L (by assumption))) ?_
          rcases bt with _ | _
          · refine E.GL.run rfl rfl rfl (E.Runs.indexAddrA (i := t) rfl rfl rfl hu100 z4 o4 htl eI2 (show _ = (⟨gI2, t * 1, none⟩ : Addr) from by rw [Go.Addr.add_mid, Nat.zero_add])) ?_
            refine E.GL.run rfl rfl rfl (E.Runs.load1 rfl rfl hu4 rfl cI2) ?_
            refine E.GL.run rfl rfl rfl (E.Runs.not rfl rfl) ?_
            refine E.GL.run rfl rfl rfl (E.Runs.pick_t rfl rfl rfl) ?_
            refine E.GL.done ?_
            refine E.QG.code ?_
            refine E.CG.cond_t rfl ?_
            refine E.CG.seq ?_
            refine E.CG.heldJ 14 (fun v W => v.grownBy W ((Value.slice A12 n c12).ownBlock)) (fun _ _ => True) (by kernel_rfl) (by kernel_rfl) (fun v => World.grownBy.refl _ _) fun v10 lD => ?_
            replace b6 := blk_below b6 lD
            replace R12 := Kd.R_below R12 lD
            replace R18 := Kd.R_below R18 lD
            replace Q21 := Q21.below lD
            replace L := below_step L lD
            have lD10 := lD
            clear lD
            obtain ⟨gY, eY, hgY, tY, stB⟩ := row104_at R12 (i := t) (by rw [hB2.lb]; exact htn)
            obtain ⟨_, bY⟩ := Kd.R_typed R12 gY (by rw [eY]; rfl)
            obtain ⟨_, hqc2, Cq2⟩ := Kd.Q_reads' Q21.q
            obtain ⟨aq2, eQ2, _⟩ := int_at Cq2 (qsL_at hu2)
            have hq0 : 0 < (qsL s2.V s2.p).length := (List.getElem?_eq_some_iff.1 (qsL_at hu2)).1
            have eOwn : (Value.slice A12 n c12).ownBlock = some gY := by rw [eY]; rfl
            have nr6 : some g6 ≠ (Value.slice A12 n c12).ownBlock := Kd.R_ne R12 b6 (by decide)
            have s_b6 := b6
            have s_L := L
            have s_Q21 := Q21
            have hh : v10.grownBy v10 ((Value.slice A12 n c12).ownBlock) := World.grownBy.refl _ _
            refine E.GJ.take1 (i := 0) rfl (by kernel_rfl) (by kernel_rfl) (by kernel_rfl) (by kernel_rfl) rfl (by kernel_rfl) (by kernel_rfl) (by intro c a d v w h; cases d <;> exact h) rfl rfl rfl (fun w' hS => (E.Runs.move rfl rfl)) ?_
            refine E.GJ.take1 (i := 1) rfl (by kernel_rfl) (by kernel_rfl) (by kernel_rfl) (by kernel_rfl) rfl (by kernel_rfl) (by kernel_rfl) (by intro c a d v w h; cases d <;> exact h) rfl rfl rfl (fun w' hS => (E.Runs.fieldAddr rfl rfl hu98 rfl (by assumption) rfl)) ?_
            refine E.GJ.take1 (i := 2) rfl (by kernel_rfl) (by kernel_rfl) (by kernel_rfl) (by kernel_rfl) rfl (by kernel_rfl) (by kernel_rfl) (by intro c a d v w h; cases d <;> exact h) rfl rfl rfl (fun w' hS => (E.Runs.load rfl rfl hu3 (by first | exact E.keeps hS (E.blkc (by assumption) rfl) (by first | exact E.nen | exact nr6 | exact E.nes (by assumption)) | exact pw_cell_below (below_step s_L (E.belowG hS)) (by assumption)))) ?_
            refine E.GJ.take1 (i := 3) rfl (by kernel_rfl) (by kernel_rfl) (by kernel_rfl) (by kernel_rfl) rfl (by kernel_rfl) (by kernel_rfl) (by intro c a d v w h; cases d <;> exact h) rfl rfl rfl (fun w' hS => (E.Runs.move rfl rfl)) ?_
            refine E.GJ.take1 (i := 4) rfl (by kernel_rfl) (by kernel_rfl) (by kernel_rfl) (by kernel_rfl) rfl (by kernel_rfl) (by kernel_rfl) (by intro c a d v w h; cases d <;> exact h) rfl rfl rfl (fun w' hS => (E.Runs.fieldAddr rfl rfl hu98 rfl (by assumption) rfl)) ?_
            refine E.GJ.take1 (i := 5) rfl (by kernel_rfl) (by kernel_rfl) (by kernel_rfl) (by kernel_rfl) rfl (by kernel_rfl) (by kernel_rfl) (by intro c a d v w h; cases d <;> exact h) rfl rfl rfl (fun w' hS => (E.Runs.load rfl rfl hu3 (by first | exact E.keeps hS (E.blkc (by assumption) rfl) (by first | exact E.nen | exact nr6 | exact E.nes (by assumption)) | exact pw_cell_below (below_step s_L (E.belowG hS)) (by assumption)))) ?_
            refine E.GJ.take1 (i := 6) rfl (by kernel_rfl) (by kernel_rfl) (by kernel_rfl) (by kernel_rfl) rfl (by kernel_rfl) (by kernel_rfl) (by intro c a d v w h; cases d <;> exact h) rfl rfl rfl (fun w' hS => (E.Runs.move rfl rfl)) ?_
            refine E.GJ.take1 (i := 7) rfl (by kernel_rfl) (by kernel_rfl) (by kernel_rfl) (by kernel_rfl) rfl (by kernel_rfl) (by kernel_rfl) (by intro c a d v w h; cases d <;> exact h) rfl rfl rfl (fun w' hS => (E.Runs.indexAddrA (i := 0) rfl rfl rfl hu22 z3 o3 (by omega) eQ2 rfl)) ?_
            refine E.GJ.take1 (i := 8) rfl (by kernel_rfl) (by kernel_rfl) (by kernel_rfl) (by kernel_rfl) rfl (by kernel_rfl) (by kernel_rfl) (by intro c a d v w h; cases d <;> exact h) rfl rfl rfl (fun w' hS => (E.Runs.load rfl rfl hu3 (int_at2 (Kd.Q_reads' (Q21.grown (by rw [eOwn] at hS; exact hS) ⟨bY, by decide⟩).q).2.2 eQ2 (qsL_at hu2)))) ?_
            refine E.GJ.take1 (i := 9) rfl (by kernel_rfl) (by kernel_rfl) (by kernel_rfl) (by kernel_rfl) rfl (by kernel_rfl) (by kernel_rfl) (by intro c a d v w h; cases d <;> exact h) rfl rfl rfl (fun w' hS => (E.Runs.move rfl rfl)) ?_
            refine E.GJ.take1 (i := 10) rfl (by kernel_rfl) (by kernel_rfl) (by kernel_rfl) (by kernel_rfl) rfl (by kernel_rfl) (by kernel_rfl) (by intro c a d v w h; cases d <;> exact h) rfl rfl rfl (fun w' hS => (E.Runs.build rfl (E.epc rfl (E.epc rfl E.epn)) (build104 _ _))) ?_
            refine E.GJ.take1 (i := 11) rfl (by kernel_rfl) (by kernel_rfl) (by kernel_rfl) (by kernel_rfl) rfl (by kernel_rfl) (by kernel_rfl) (by intro c a d v w h; cases d <;> exact h) rfl rfl rfl (fun w' hS => (E.Runs.indexAddrA (i := t) rfl rfl rfl hu99 z104 o104 htl eY (show _ = (⟨gY, t * 2, none⟩ : Addr) from by rw [Go.Addr.add_mid, Nat.zero_add]))) ?_
            refine E.GJ.one (i := 12) (by kernel_rfl) (E.OJ.sn rfl rfl rfl (E.ST.storeMid (cells := [.int .i64 (u : Int), .int .i64 (i : Int)]) rfl rfl rfl tY info104s (two_one _ _) ⟨(E.SJ.before (by kernel_rfl)).mpr (by obtain ⟨_, q1, _, q3⟩ := stB ⟨u, i⟩; subst q1; rw [eOwn]; exact q3), ?_⟩))
            obtain ⟨wB, hwB, RB, gB⟩ := stB ⟨u, i⟩
            rw [← hwB]
            replace R18 := over_blk R18 bY (by decide) rfl gB
            replace Q21 := Q21.grown gB ⟨bY, by decide⟩
            replace L := E.below_own L hgY gB
            replace b6 := blk_grown b6 gB (E.nes (blk_ne b6 bY (by decide)))
            replace R12 := RB
            clear RB gB bY
            obtain ⟨gI, eI, hgI, cI, fI, stI⟩ := rowB_at R18 hbt
            obtain ⟨_, bI⟩ := Kd.R_typed R18 gI (by rw [eI]; rfl)
            refine E.GJ.take1 (i := 13) rfl (by kernel_rfl) (by kernel_rfl) (by kernel_rfl) (by kernel_rfl) rfl (by kernel_rfl) (by kernel_rfl) (by intro c a d v w h; cases d <;> exact h) rfl rfl rfl (fun w' hS => (E.Runs.indexAddrA (i := t) rfl rfl rfl hu100 z4 o4 htl eI (show _ = (⟨gI, t * 1, none⟩ : Addr) from by rw [Go.Addr.add_mid, Nat.zero_add]))) ?_
            refine E.GJ.one (i := 14) (by kernel_rfl) (E.OJ.sn rfl rfl rfl (E.ST.storeC rfl z4 o4 rfl rfl (.inl ⟨_, rfl⟩) cI fI ⟨(E.SJ.behind (by kernel_rfl)).mpr trivial, ?_⟩))
            obtain ⟨wJ, hwwJ, RJ, gJ⟩ := stI true
            rw [← hwwJ]
            replace R12 := over_blk R12 bI (by decide) rfl gJ
            replace Q21 := Q21.grown gJ ⟨bI, by decide⟩
            replace L := E.below_own L hgI gJ
            replace b6 := blk_grown b6 gJ (E.nes (blk_ne b6 bI (by decide)))
            replace R18 := RJ
            clear RJ gJ bI
            refine E.GJ.done (by kernel_rfl) ?_
            refine E.QG.code ?_
            refine E.CG.list ?_
            refine E.GL.run rfl rfl rfl (E.Runs.move rfl rfl) ?_
            refine E.GL.run rfl rfl rfl (E.Runs.fieldAddr rfl rfl hu98 rfl (by assumption) rfl) ?_
            refine E.GL.run rfl rfl rfl (E.Runs.load rfl rfl hu3 (by first | assumption | exact E.blkc (by assumption) rfl | exact pw_cell_below L (by assumption))) ?_
            refine E.GL.st rfl rfl rfl (E.ST.lit rfl (E.epc rfl E.epn) (lit22 (t : Int)) ?_)
            refine E.GL.st rfl rfl rfl (E.ST.appendQ kI w.heap.size (w0 := w) (s := .tmp 66) (x := .tmp 69) rfl hu22 info3 rfl (by decide) (by decide) (t : Int) rfl rfl (cs := [.int .i64 (t : Int)]) rfl (fun _ _ => trivial) Q21.q L L.size (by have := qsL_len s2.V s2.p; have := hB2.few; omega) fun u70 w70 r70 k70 g70 o70 => ?_)
            obtain ⟨A70, c70, hu70, _⟩ := Kd.Q_slice r70
            subst hu70
            replace R12 := Kd.R_over' R12 (Kd.Q_typed Q21.q) (by decide) g70
            replace R18 := Kd.R_over' R18 (Kd.Q_typed Q21.q) (by decide) g70
            replace L := k70
            replace Q21 : Qw _ _ _ _ := ⟨r70⟩
            clear r70
            refine E.GL.run rfl rfl rfl (E.Runs.assign rfl rfl) ?_
            refine E.GL.done ?_
            refine E.QG.block_normal ?_
            refine E.QG.code ?_
            refine E.CG.list ?_
            refine E.GL.run rfl rfl rfl (E.Runs.add rfl rfl rfl (IntWalk.i64_in _ (by omega))) ?_
            refine E.GL.run rfl rfl rfl (E.Runs.move rfl rfl) ?_
            refine E.GL.done ?_
            exact E.QG.round2 (d := ⟨[], 0, [], [], none, 0⟩) (i + 1) ⟨s2.V ++ [t], s2.p, s2.bl.set t ⟨u, i⟩, s2.il.set t true, A70, c70⟩ (E.subc rfl (E.subc rfl (E.subc rfl (E.subc (by first | rfl | (rw [qsL_snoc hB2.pl]; rfl)) (E.subc rfl (E.subc rfl (E.subc rfl E.subn))))))) (by first | exact ⟨by omega, hp2, hu2, bfs_next hcl hx (fun h => absurd h h44), hB2, R12, R18, Q21, L⟩ | exact ⟨by omega, hp2, hu2, bfs_next hcl hx (fun _ => ⟨t, rfl, (hB2.is t htn).mp hbt⟩), hB2, R12, R18, Q21, L⟩ | exact ⟨by omega, hp2, by rw [List.getElem?_append_left (List.getElem?_eq_some_iff.1 hu2).1]; exact hu2, bfs_next (fun j hj x q1 q2 => by obtain ⟨z, q3, q4⟩ := hcl j hj x q1 q2; exact ⟨z, q3, List.mem_append_left _ q4⟩) hx (fun _ => ⟨t, rfl, by simp⟩), hB2.found hu2 hx rfl htn h44 hbt, R12, R18, by rw [qsL_snoc hB2.pl]; exact Q21, L⟩ | fail) (by omega)
          · refine E.GL.run rfl rfl rfl (E.Runs.indexAddrA (i := t) rfl rfl rfl hu100 z4 o4 htl eI2 (show _ = (⟨gI2, t * 1, none⟩ : Addr) from by rw [Go.Addr.add_mid, Nat.zero_add])) ?_
            refine E.GL.run rfl rfl rfl (E.Runs.load1 rfl rfl hu4 rfl cI2) ?_
            refine E.GL.run rfl rfl rfl (E.Runs.not rfl rfl) ?_
            refine E.GL.run rfl rfl rfl (E.Runs.pick_t rfl rfl rfl) ?_
            refine E.GL.done ?_
            refine E.QG.code ?_
            refine E.CG.cond_f rfl ?_
            refine E.CG.skip ?_
            refine E.QG.block_normal ?_
            refine E.QG.code ?_
            refine E.CG.list ?_
            refine E.GL.run rfl rfl rfl (E.Runs.add rfl rfl rfl (IntWalk.i64_in _ (by omega))) ?_
            refine E.GL.run rfl rfl rfl (E.Runs.move rfl rfl) ?_
            refine E.GL.done ?_
            exact E.QG.round2 (d := ⟨[], 0, [], [], none, 0⟩) (i + 1) s2 (E.subc rfl (E.subc rfl (E.subc rfl (E.subc (by first | rfl | (rw [qsL_snoc hB2.pl]; rfl)) (E.subc rfl (E.subc rfl (E.subc rfl E.subn))))))) (by first | exact ⟨by omega, hp2, hu2, bfs_next hcl hx (fun h => absurd h h44), hB2, R12, R18, Q21, L⟩ | exact ⟨by omega, hp2, hu2, bfs_next hcl hx (fun _ => ⟨t, rfl, (hB2.is t htn).mp hbt⟩), hB2, R12, R18, Q21, L⟩ | exact ⟨by omega, hp2, by rw [List.getElem?_append_left (List.getElem?_eq_some_iff.1 hu2).1]; exact hu2, bfs_next (fun j hj x q1 q2 => by obtain ⟨z, q3, q4⟩ := hcl j hj x q1 q2; exact ⟨z, q3, List.mem_append_left _ q4⟩) hx (fun _ => ⟨t, rfl, by simp⟩), hB2.found hu2 hx rfl htn h44 hbt, R12, R18, by rw [qsL_snoc hB2.pl]; exact Q21, L⟩ | fail) (by omega)
        · refine E.GL.run rfl rfl rfl (E.Runs.move rfl rfl) ?_
          refine E.GL.skip rfl rfl rfl ?_
          refine E.GL.skip rfl rfl rfl ?_
          refine E.GL.skip rfl rfl rfl ?_
          refine E.GL.skip rfl rfl rfl ?_
          refine E.GL.skip rfl rfl rfl ?_
          refine E.GL.skip rfl rfl rfl ?_
          refine E.GL.run rfl rfl rfl (E.Runs.pick_f rfl rfl rfl) ?_
          refine E.GL.done ?_
          refine E.QG.code ?_
          refine E.CG.cond_f rfl ?_
          refine E.CG.skip ?_
          refine E.QG.block_normal ?_
          refine E.QG.code ?_
          refine E.CG.list ?_
          refine E.GL.run rfl rfl rfl (E.Runs.add rfl rfl rfl (IntWalk.i64_in _ (by omega))) ?_
          refine E.GL.run rfl rfl rfl (E.Runs.move rfl rfl) ?_
          refine E.GL.done ?_
          exact E.QG.round2 (d := ⟨[], 0, [], [], none, 0⟩) (i + 1) s2 (E.subc rfl (E.subc rfl (E.subc rfl (E.subc (by first | rfl | (rw [qsL_snoc hB2.pl]; rfl)) (E.subc rfl (E.subc rfl (E.subc rfl E.subn))))))) (by first | exact ⟨by omega, hp2, hu2, bfs_next hcl hx (fun h => absurd h h44), hB2, R12, R18, Q21, L⟩ | exact ⟨by omega, hp2, hu2, bfs_next hcl hx (fun _ => ⟨t, rfl, (hB2.is t htn).mp hbt⟩), hB2, R12, R18, Q21, L⟩ | exact ⟨by omega, hp2, by rw [List.getElem?_append_left (List.getElem?_eq_some_iff.1 hu2).1]; exact hu2, bfs_next (fun j hj x q1 q2 => by obtain ⟨z, q3, q4⟩ := hcl j hj x q1 q2; exact ⟨z, q3, List.mem_append_left _ q4⟩) hx (fun _ => ⟨t, rfl, by simp⟩), hB2.found hu2 hx rfl htn h44 hbt, R12, R18, by rw [qsL_snoc hB2.pl]; exact Q21, L⟩ | fail) (by omega)
      · obtain ⟨_, hqc2, _⟩ := Kd.Q_reads' Q21.q
        have hq0 : 0 < (qsL s2.V s2.p).length := (List.getElem?_eq_some_iff.1 (qsL_at hu2)).1
        have Q26 : Qw _ _ _ _ := ⟨Kd.Q_drop (k := 1) Q21.q (by omega)⟩
        rw [← qsL_pop] at Q26
        have e26 : (qsL s2.V (s2.p + 1)).length = (qsL s2.V s2.p).length - 1 := by rw [qsL_pop, List.length_drop]
        rw [← e26] at Q26
        have hdone : ∀ x ∈ rowP Es f u, 0 < x.f1 → ∃ t : Nat, x.f0 = t ∧ t ∈ s2.V := fun x hx h1 => by obtain ⟨j, hj⟩ := List.mem_iff_getElem?.mp hx; exact hcl j (by have := (List.getElem?_eq_some_iff.1 hj).1; omega) x hj h1
        refine E.GL.done ?_
        refine E.QG.code ?_
        refine E.CG.seq ?_
        refine E.CG.cond_f rfl ?_
        refine E.CG.exit ?_
        refine E.QG.pass_exit ?_
        refine E.QG.pass_exit ?_
        refine E.QG.block_here ?_
        refine E.QG.block_normal ?_
        refine E.QG.code ?_
        refine E.CG.list ?_
        refine E.GL.run rfl rfl rfl (E.Runs.move rfl rfl) ?_
        refine E.GL.run rfl rfl rfl (E.Runs.sliceFrom (i := 1) rfl rfl rfl hu22 z3 o3 (by omega) hqc2 rfl) ?_
        refine E.GL.run rfl rfl rfl (E.Runs.assign rfl rfl) ?_
        refine E.GL.done ?_
        exact E.QG.round ⟨s2.V, s2.p + 1, s2.bl, s2.il, if s2.c = 1 then s2.A else s2.A.map (·.add (1 * 1)), s2.c - 1⟩ (E.subc rfl (E.subc rfl (E.subc rfl (E.subc (by rw [qsL_pop, List.length_drop]; rfl) E.subn)))) ⟨hB2.done hu2 hdone, R12, R18, Q26, L⟩ (by have := hB2.few; have := hB0.few; simp only; omega)
    · refine E.GL.done ?_
      refine E.QG.code ?_
      refine E.CG.cond_f rfl ?_
      refine E.CG.exit ?_
      refine E.QG.pass_exit ?_
      refine E.QG.pass_exit ?_
      refine E.QG.block_here ?_
      refine E.QG.code ?_
      refine E.CG.seq ?_
      refine E.CG.list ?_
      refine E.GL.run rfl rfl rfl (E.Runs.move rfl rfl) ?_
      refine E.GL.run rfl rfl rfl (E.Runs.move rfl rfl) ?_
      refine E.GL.run rfl rfl rfl (E.Runs.assign rfl rfl) ?_
      refine E.GL.run rfl rfl rfl (E.Runs.assign rfl rfl) ?_
      refine E.GL.done ?_
      refine E.QG.code ?_
      refine E.CG.ret ?_
      exact E.QG.result2 rfl rfl rfl ⟨_, _, _, _, _, _, rfl, R12, R18, hB0.ended (by rw [qsL_len] at h24; omega) hn0, L⟩
  · refine E.GO.st rfl rfl rfl (E.ST.makeR kB w.heap.size 4 rfl rfl (m := n) rfl rfl hu100 (.bool false) 1 info4 rfl (by decide) (by decide) false rfl (by omega) L L.size fun v18 w18 R18 k18 l18 o18 => ⟨hh.trans (E.gbB l18), ?_⟩)
    replace hh := hh.trans (E.gbB l18)
    replace L := below_step L l18
    obtain ⟨A18, c18, hv18⟩ : ∃ A c, v18 = .slice A n c := by obtain ⟨A, c, e⟩ := Kd.R_slice R18; exact ⟨A, c, by rw [e, List.length_replicate]⟩
    subst hv18
    refine E.GH.one (i := 5) (by kernel_rfl) rfl ?_
    refine E.GO.st rfl rfl rfl (E.ST.makeR k104 w.heap.size 104 rfl rfl (m := n) rfl rfl hu99 (.agg #[.int .i64 0, .int .i64 0]) 16 info104 rfl (by decide) (by decide) ⟨0, 0⟩ (two_made _ _ _ ⟨0, 0⟩) (by omega) L L.size fun v12 w12 R12 k12 l12 o12 => ⟨hh.trans (E.gbB l12), ?_⟩)
    replace hh := hh.trans (E.gbB l12)
    replace R18 := Kd.R_below R18 l12
    replace L := below_step L l12
    obtain ⟨A12, c12, hv12⟩ : ∃ A c, v12 = .slice A n c := by obtain ⟨A, c, e⟩ := Kd.R_slice R12; exact ⟨A, c, by rw [e, List.length_replicate]⟩
    subst hv12
    refine E.GH.take (i := 12) rfl (by kernel_rfl) (by kernel_rfl) (by kernel_rfl) (by intro c a d v w h; cases d <;> exact h) rfl rfl rfl (fun w' hS => (E.Runs.assign rfl rfl)) ?_
    refine E.GH.take (i := 13) rfl (by kernel_rfl) (by kernel_rfl) (by kernel_rfl) (by intro c a d v w h; cases d <;> exact h) rfl rfl rfl (fun w' hS => (E.Runs.assign rfl rfl)) ?_
    refine E.GH.done (by kernel_rfl) ?_
    refine E.QG.code ?_
    refine E.CG.seq ?_
    obtain ⟨gI, eI, hgI, cI, fI, stI⟩ := rowB_at R18 (i := 0) (s := false) (by simp [hn0])
    obtain ⟨_, bI⟩ := Kd.R_typed R18 gI (by rw [eI]; rfl)
    refine E.CG.list ?_
    refine E.GL.run rfl rfl rfl (E.Runs.move rfl rfl) ?_
    refine E.GL.run rfl rfl rfl (E.Runs.indexAddrA (i := 0) rfl rfl rfl hu100 z4 o4 (by omega) eI (show _ = (⟨gI, 0 * 1, none⟩ : Addr) from by rw [Go.Addr.add_mid, Nat.zero_add])) ?_
    refine E.GL.sn rfl rfl (E.ST.storeC rfl z4 o4 rfl rfl (.inl ⟨_, rfl⟩) cI fI ?_)
    obtain ⟨wI, hwwI, RJ, gJ⟩ := stI true
    rw [← hwwI]
    replace R12 := over_blk R12 bI (by decide) rfl gJ
    replace L := E.below_own L hgI gJ
    replace R18 := RJ
    clear RJ gJ bI
    refine E.GL.done ?_
    refine E.QG.code ?_
    refine E.CG.seq ?_
    refine E.CG.seq ?_
    refine E.CG.list ?_
    refine E.GL.st rfl rfl rfl (E.ST.litAt kI w.heap.size (w0 := w) (ys := [(0 : Int)]) (inner := [.int .i64 0]) rfl rfl (E.epc rfl E.epn) (lit22 0) (reps_int1 _ _ _) L L.size (by simp) fun v21 w21 r21 k21 l21 n21 => ?_)
    replace R18 := Kd.R_below R18 l21
    replace R12 := Kd.R_below R12 l21
    replace L := below_step L l21
    obtain ⟨A21, c21, hv21⟩ := Kd.R_slice r21
    subst hv21
    have Q21 : Qw _ _ _ _ := ⟨Kd.Q_of_R r21⟩
    clear r21
    refine E.GL.run rfl rfl rfl (E.Runs.assign rfl rfl) ?_
    refine E.GL.done ?_
    refine E.QG.code ?_
    refine E.CG.block ?_
    have s4_L := L
    refine E.CG.loop (fun (s : Br) => [(0, .pointer (some ⟨gN, 0, none⟩)), (2, .slice A12 n c12), (3, .slice A18 n c18), (4, .slice s.A (qsL s.V s.p).length s.c)]) (fun s w' => Bfs Es f n s.V s.p s.bl s.il ∧ Kd.R k104 104 w' w.heap.size (fun _ => True) (.slice A12 n c12) s.bl ∧ Kd.R kB 4 w' w.heap.size (fun _ => True) (.slice A18 n c18) s.il ∧ Qw w' w.heap.size (.slice s.A (qsL s.V s.p).length s.c) (qsL s.V s.p) ∧ Below w.heap.size w w') (fun s => n - s.p) ⟨[0], 0, List.replicate n ⟨0, 0⟩, (List.replicate n false).set 0 true, A21, c21⟩ (E.subc rfl (E.subc rfl (E.subc rfl (E.subc rfl E.subn)))) ⟨Bfs.start hn0, R12, R18, Q21, L⟩ ?_
    rintro s w4 ⟨hB0, R12, R18, Q21, L⟩
    refine E.CG.seq ?_
    refine E.CG.seq ?_
    refine E.CG.list ?_
    refine E.GL.run rfl rfl rfl (E.Runs.move rfl rfl) ?_
    refine E.GL.run rfl rfl rfl (E.Runs.len rfl rfl hu22) ?_
    refine E.GL.cmp rfl rfl rfl (fun _ h => (E.Runs.gtr rfl rfl rfl h)) (fun h24 => ?_) (fun h24 => ?_)
    · have hB := hB0
      obtain ⟨u, hu⟩ : ∃ u, s.V[s.p]? = some u := ⟨_, List.getElem?_eq_getElem (by rw [qsL_len] at h24; omega)⟩
      have hqp := (List.getElem?_eq_some_iff.1 hu).1
      obtain ⟨_, hqc, Cq⟩ := Kd.Q_reads' Q21.q
      obtain ⟨aq, eQ, qc⟩ := int_at Cq (qsL_at hu)
      have hul := hB.lt u (List.mem_of_getElem? hu)
      have hun : (u : Int) < n := by omega
      obtain ⟨Au, cu, hvu, Ru⟩ := hR.at_ (rowsP_get hul)
      obtain ⟨_, _, Cu⟩ := Kd.R_reads' Ru
      have hre := rowP_few Es f u
      refine E.GL.done ?_
      refine E.QG.code ?_
      refine E.CG.cond_t rfl ?_
      refine E.CG.skip ?_
      refine E.QG.code ?_
      refine E.CG.seq ?_
      refine E.CG.block ?_
      refine E.CG.seq ?_
      refine E.CG.quietF (by kernel_rfl) rfl (by kernel_rfl) (by kernel_rfl) ?_
      refine E.GQ.run rfl rfl rfl (E.Runs.move rfl rfl) ?_
      refine E.GQ.run rfl rfl rfl (E.Runs.nilCheck rfl rfl) ?_
      refine E.GQ.run rfl rfl rfl (E.Runs.fieldAddr rfl rfl hu76 rfl (by assumption) rfl) ?_
      refine E.GQ.run rfl rfl rfl (E.Runs.load1 rfl rfl hu74 rfl (by first | assumption | exact E.blkc (by assumption) rfl | exact pw_cell_below L (by assumption))) ?_
      refine E.GQ.run rfl rfl rfl (E.Runs.move rfl rfl) ?_
      refine E.GQ.run rfl rfl rfl (E.Runs.indexAddrA (i := 0) rfl rfl rfl hu22 z3 o3 (by rw [qsL_len]; omega) eQ rfl) ?_
      refine E.GQ.run rfl rfl rfl (E.Runs.load rfl rfl hu3 qc) ?_
      refine E.GQ.run rfl rfl rfl (E.Runs.indexAddrA rfl rfl rfl hu74 z96 o96 hun rfl (show _ = (⟨gE, u * 1, none⟩ : Addr) from by rw [Go.Addr.add_mid, Nat.zero_add])) ?_
      refine E.GQ.run rfl rfl rfl (E.Runs.load1 rfl rfl hu96 rfl (pw_cell_below L (hR.cell hvu))) ?_
      refine E.GQ.run rfl rfl rfl (E.Runs.len rfl rfl hu96) ?_
      refine E.GQ.run rfl rfl rfl (E.Runs.move rfl rfl) ?_
      refine E.GQ.doneB fun v6 lD => ?_
      replace R12 := Kd.R_below R12 lD
      replace R18 := Kd.R_below R18 lD
      replace Q21 := Q21.below lD
      replace L := below_step L lD
      clear lD
      refine E.QG.code ?_
      refine E.CG.block ?_
      have s7_L := L
      refine E.CG.loop2 (fun (i : Nat) (s2 : Br) => [(0, .pointer (some ⟨gN, 0, none⟩)), (2, .slice A12 n c12), (3, .slice A18 n c18), (4, .slice s2.A (qsL s2.V s2.p).length s2.c), (35, .slice Au (rowP Es f u).length cu), (36, .int .i64 (rowP Es f u).length), (37, .int .i64 i)]) (fun i s2 w' => i ≤ (rowP Es f u).length ∧ s2.p = s.p ∧ s2.V[s2.p]? = some u ∧ (∀ j, j < i → ∀ x, (rowP Es f u)[j]? = some x → 0 < x.f1 → ∃ t : Nat, x.f0 = t ∧ t ∈ s2.V) ∧ Bfs Es f n s2.V s2.p s2.bl s2.il ∧ Kd.R k104 104 w' w.heap.size (fun _ => True) (.slice A12 n c12) s2.bl ∧ Kd.R kB 4 w' w.heap.size (fun _ => True) (.slice A18 n c18) s2.il ∧ Qw w' w.heap.size (.slice s2.A (qsL s2.V s2.p).length s2.c) (qsL s2.V s2.p) ∧ Below w.heap.size w w') (fun i s2 => (rowP Es f u).length - i) 0 s (E.subc rfl (E.subc rfl (E.subc rfl (E.subc rfl (E.subc rfl (E.subc rfl (E.subc rfl E.subn))))))) ⟨Nat.zero_le _, rfl, hu, fun j hj => by omega, hB, R12, R18, Q21, L⟩ ?_
      rintro i s2 w7 ⟨hi, hp2, hu2, hcl, hB2, R12, R18, Q21, L⟩
      refine E.CG.seq ?_
      refine E.CG.list ?_
      refine E.GL.cmp rfl rfl rfl (fun _ h => (E.Runs.lss rfl rfl rfl h)) (fun h38 => ?_) (fun h38 => ?_)
      · obtain ⟨x, hx⟩ : ∃ x, (rowP Es f u)[i]? = some x := ⟨_, List.getElem?_eq_getElem (by omega)⟩
        obtain ⟨t, ht0, htn⟩ := rowP_to hE hx
        obtain ⟨x0, x1, x2, x3⟩ := x
        obtain rfl : x0 = (t : Int) := ht0
        obtain ⟨ad, eA, hxc⟩ := entry_at Cu hx
        have hil : (i : Int) < (rowP Es f u).length := by omega
        have htl : (t : Int) < n := by omega
        refine E.GL.done ?_
        refine E.QG.code ?_
        refine E.CG.seq ?_
        refine E.CG.cond_t rfl ?_
        refine E.CG.skip ?_
        refine E.QG.code ?_
        refine E.CG.seq ?_
        refine E.CG.block ?_
        refine E.CG.seq ?_
        refine E.CG.list ?_
        refine E.GL.run rfl rfl rfl (E.Runs.move rfl rfl) ?_
        refine E.GL.run rfl rfl rfl (E.Runs.indexAddrA rfl rfl rfl hu96 z98 o98 hil eA rfl) ?_
        refine E.GL.run rfl rfl rfl (E.Runs.loads (cs := [.int .i64 (t : Int), .int .i64 x1, .int .i64 x2, .int .i64 x3.f0, .int .i64 x3.f1]) rfl rfl hu98 rfl info98s (fun j v hv => pw_cell_below L (hxc j v hv))) ?_
        refine E.GL.st rfl rfl rfl (E.ST.alloc rfl info98z fun g6 w6 e6 b6 l6 => ?_)
        have h6_L : w.heap.size ≤ g6 := by rw [e6]; exact L.size
        have n6_R12 : some g6 ≠ ((Value.slice A12 n c12)).ownBlock := fun h => by have := Kd.R_lt R12 _ h.symm; omega
        have n6_R18 : some g6 ≠ ((Value.slice A18 n c18)).ownBlock := fun h => by have := Kd.R_lt R18 _ h.symm; omega
        replace R12 := Kd.R_below R12 l6
        replace R18 := Kd.R_below R18 l6
        replace Q21 := Q21.below l6
        replace L := below_step L l6
        refine E.GL.run rfl rfl rfl (E.Runs.assign rfl rfl) ?_
        refine E.GL.store_whole rfl rfl rfl rfl rfl b6 rfl info98s (five_one _ _ _ _ _) fun wS8_5 c6 lS8_5 => ?_
        replace R12 := Kd.R_grown1 R12 rfl lS8_5 (by first | assumption | exact Kd.R_ne R12 b6 (by decide))
        replace R18 := Kd.R_grown1 R18 rfl lS8_5 (by first | assumption | exact Kd.R_ne R18 b6 (by decide))
        replace Q21 := Q21.grown lS8_5 ⟨b6, by decide⟩
        replace L := E.below_own L h6_L lS8_5
        replace b6 := c6
        clear c6
        refine E.GL.done ?_
        refine E.QG.code ?_
        refine E.CG.seq ?_
        refine E.CG.list ?_
        refine E.GL.run rfl rfl rfl (E.Runs.fieldAddr rfl rfl hu98 rfl (by assumption) rfl) ?_
        refine E.GL.run rfl rfl rfl (E.Runs.load rfl rfl hu3 (by first | assumption | exact E.blkc (by assumption) rfl | exact pw_cell_below L (by assumption))) ?_
        refine E.GL.cmp rfl rfl rfl (fun _ h => (E.Runs.gtr rfl rfl rfl h)) (fun h44 => ?_) (fun h44 => ?_)
        · obtain ⟨bt, hbt⟩ : ∃ b, s2.il[t]? = some b := ⟨_, List.getElem?_eq_getElem (by rw [hB2.li]; exact htn)⟩
          obtain ⟨gI2, eI2, hgI2, cI2, fI2, stI2⟩ := rowB_at R18 hbt
          refine E.GL.run rfl rfl rfl (E.Runs.move rfl rfl) ?_
          refine E.GL.run rfl rfl rfl (E.Runs.move rfl rfl) ?_
          refine E.GL.run rfl rfl rfl (E.Runs.fieldAddr rfl rfl hu98 rfl (by assumption) rfl) ?_
          refine E.GL.run rfl rfl rfl (E.Runs.load rfl rfl hu3 (by first | assumption | exact E.blkc (by assumption) rfl | exact pw_cell_below L (by assumption))) ?_
          rcases bt with _ | _
          · refine E.GL.run rfl rfl rfl (E.Runs.indexAddrA (i := t) rfl rfl rfl hu100 z4 o4 htl eI2 (show _ = (⟨gI2, t * 1, none⟩ : Addr) from by rw [Go.Addr.add_mid, Nat.zero_add])) ?_
            refine E.GL.run rfl rfl rfl (E.Runs.load1 rfl rfl hu4 rfl cI2) ?_
            refine E.GL.run rfl rfl rfl (E.Runs.not rfl rfl) ?_
            refine E.GL.run rfl rfl rfl (E.Runs.pick_t rfl rfl rfl) ?_
            refine E.GL.done ?_
            refine E.QG.code ?_
            refine E.CG.cond_t rfl ?_
            refine E.CG.seq ?_
            refine E.CG.heldJ 14 (fun v W => v.grownBy W ((Value.slice A12 n c12).ownBlock)) (fun _ _ => True) (by kernel_rfl) (by kernel_rfl) (fun v => World.grownBy.refl _ _) fun v10 lD => ?_
            replace b6 := blk_below b6 lD
            replace R12 := Kd.R_below R12 lD
            replace R18 := Kd.R_below R18 lD
            replace Q21 := Q21.below lD
            replace L := below_step L lD
            have lD10 := lD
            clear lD
            obtain ⟨gY, eY, hgY, tY, stB⟩ := row104_at R12 (i := t) (by rw [hB2.lb]; exact htn)
            obtain ⟨_, bY⟩ := Kd.R_typed R12 gY (by rw [eY]; rfl)
            obtain ⟨_, hqc2, Cq2⟩ := Kd.Q_reads' Q21.q
            obtain ⟨aq2, eQ2, _⟩ := int_at Cq2 (qsL_at hu2)
            have hq0 : 0 < (qsL s2.V s2.p).length := (List.getElem?_eq_some_iff.1 (qsL_at hu2)).1
            have eOwn : (Value.slice A12 n c12).ownBlock = some gY := by rw [eY]; rfl
            have nr6 : some g6 ≠ (Value.slice A12 n c12).ownBlock := Kd.R_ne R12 b6 (by decide)
            have s_b6 := b6
            have s_L := L
            have s_Q21 := Q21
            have hh : v10.grownBy v10 ((Value.slice A12 n c12).ownBlock) := World.grownBy.refl _ _
            refine E.GJ.take1 (i := 0) rfl (by kernel_rfl) (by kernel_rfl) (by kernel_rfl) (by kernel_rfl) rfl (by kernel_rfl) (by kernel_rfl) (by intro c a d v w h; cases d <;> exact h) rfl rfl rfl (fun w' hS => (E.Runs.move rfl rfl)) ?_
            refine E.GJ.take1 (i := 1) rfl (by kernel_rfl) (by kernel_rfl) (by kernel_rfl) (by kernel_rfl) rfl (by kernel_rfl) (by kernel_rfl) (by intro c a d v w h; cases d <;> exact h) rfl rfl rfl (fun w' hS => (E.Runs.fieldAddr rfl rfl hu98 rfl (by assumption) rfl)) ?_
            refine E.GJ.take1 (i := 2) rfl (by kernel_rfl) (by kernel_rfl) (by kernel_rfl) (by kernel_rfl) rfl (by kernel_rfl) (by kernel_rfl) (by intro c a d v w h; cases d <;> exact h) rfl rfl rfl (fun w' hS => (E.Runs.load rfl rfl hu3 (by first | exact E.keeps hS (E.blkc (by assumption) rfl) (by first | exact E.nen | exact nr6 | exact E.nes (by assumption)) | exact pw_cell_below (below_step s_L (E.belowG hS)) (by assumption)))) ?_
            refine E.GJ.take1 (i := 3) rfl (by kernel_rfl) (by kernel_rfl) (by kernel_rfl) (by kernel_rfl) rfl (by kernel_rfl) (by kernel_rfl) (by intro c a d v w h; cases d <;> exact h) rfl rfl rfl (fun w' hS => (E.Runs.move rfl rfl)) ?_
            refine E.GJ.take1 (i := 4) rfl (by kernel_rfl) (by kernel_rfl) (by kernel_rfl) (by kernel_rfl) rfl (by kernel_rfl) (by kernel_rfl) (by intro c a d v w h; cases d <;> exact h) rfl rfl rfl (fun w' hS => (E.Runs.fieldAddr rfl rfl hu98 rfl (by assumption) rfl)) ?_
            refine E.GJ.take1 (i := 5) rfl (by kernel_rfl) (by kernel_rfl) (by kernel_rfl) (by kernel_rfl) rfl (by kernel_rfl) (by kernel_rfl) (by intro c a d v w h; cases d <;> exact h) rfl rfl rfl (fun w' hS => (E.Runs.load rfl rfl hu3 (by first | exact E.keeps hS (E.blkc (by assumption) rfl) (by first | exact E.nen | exact nr6 | exact E.nes (by assumption)) | exact pw_cell_below (below_step s_L (E.belowG hS)) (by assumption)))) ?_
            refine E.GJ.take1 (i := 6) rfl (by kernel_rfl) (by kernel_rfl) (by kernel_rfl) (by kernel_rfl) rfl (by kernel_rfl) (by kernel_rfl) (by intro c a d v w h; cases d <;> exact h) rfl rfl rfl (fun w' hS => (E.Runs.move rfl rfl)) ?_
            refine E.GJ.take1 (i := 7) rfl (by kernel_rfl) (by kernel_rfl) (by kernel_rfl) (by kernel_rfl) rfl (by kernel_rfl) (by kernel_rfl) (by intro c a d v w h; cases d <;> exact h) rfl rfl rfl (fun w' hS => (E.Runs.indexAddrA (i := 0) rfl rfl rfl hu22 z3 o3 (by omega) eQ2 rfl)) ?_
            refine E.GJ.take1 (i := 8) rfl (by kernel_rfl) (by kernel_rfl) (by kernel_rfl) (by kernel_rfl) rfl (by kernel_rfl) (by kernel_rfl) (by intro c a d v w h; cases d <;> exact h) rfl rfl rfl (fun w' hS => (E.Runs.load rfl rfl hu3 (int_at2 (Kd.Q_reads' (Q21.grown (by rw [eOwn] at hS; exact hS) ⟨bY, by decide⟩).q).2.2 eQ2 (qsL_at hu2)))) ?_
            refine E.GJ.take1 (i := 9) rfl (by kernel_rfl) (by kernel_rfl) (by kernel_rfl) (by kernel_rfl) rfl (by kernel_rfl) (by kernel_rfl) (by intro c a d v w h; cases d <;> exact h) rfl rfl rfl (fun w' hS => (E.Runs.move rfl rfl)) ?_
            refine E.GJ.take1 (i := 10) rfl (by kernel_rfl) (by kernel_rfl) (by kernel_rfl) (by kernel_rfl) rfl (by kernel_rfl) (by kernel_rfl) (by intro c a d v w h; cases d <;> exact h) rfl rfl rfl (fun w' hS => (E.Runs.build rfl (E.epc rfl (E.epc rfl E.epn)) (build104 _ _))) ?_
            refine E.GJ.take1 (i := 11) rfl (by kernel_rfl) (by kernel_rfl) (by kernel_rfl) (by kernel_rfl) rfl (by kernel_rfl) (by kernel_rfl) (by intro c a d v w h; cases d <;> exact h) rfl rfl rfl (fun w' hS => (E.Runs.indexAddrA (i := t) rfl rfl rfl hu99 z104 o104 htl eY (show _ = (⟨gY, t * 2, none⟩ : Addr) from by rw [Go.Addr.add_mid, Nat.zero_add]))) ?_
            refine E.GJ.one (i := 12) (by kernel_rfl) (E.OJ.sn rfl rfl rfl (E.ST.storeMid (cells := [.int .i64 (u : Int), .int .i64 (i : Int)]) rfl rfl rfl tY info104s (two_one _ _) ⟨(E.SJ.before (by kernel_rfl)).mpr (by obtain ⟨_, q1, _, q3⟩ := stB ⟨u, i⟩; subst q1; rw [eOwn]; exact q3), ?_⟩))
            obtain ⟨wB, hwB, RB, gB⟩ := stB ⟨u, i⟩
            rw [← hwB]
            replace R18 := over_blk R18 bY (by decide) rfl gB
            replace Q21 := Q21.grown gB ⟨bY, by decide⟩
            replace L := E.below_own L hgY gB
            replace b6 := blk_grown b6 gB (E.nes (blk_ne b6 bY (by decide)))
            replace R12 := RB
            clear RB gB bY
            obtain ⟨gI, eI, hgI, cI, fI, stI⟩ := rowB_at R18 hbt
            obtain ⟨_, bI⟩ := Kd.R_typed R18 gI (by rw [eI]; rfl)
            refine E.GJ.take1 (i := 13) rfl (by kernel_rfl) (by kernel_rfl) (by kernel_rfl) (by kernel_rfl) rfl (by kernel_rfl) (by kernel_rfl) (by intro c a d v w h; cases d <;> exact h) rfl rfl rfl (fun w' hS => (E.Runs.indexAddrA (i := t) rfl rfl rfl hu100 z4 o4 htl eI (show _ = (⟨gI, t * 1, none⟩ : Addr) from by rw [Go.Addr.add_mid, Nat.zero_add]))) ?_
            refine E.GJ.one (i := 14) (by kernel_rfl) (E.OJ.sn rfl rfl rfl (E.ST.storeC rfl z4 o4 rfl rfl (.inl ⟨_, rfl⟩) cI fI ⟨(E.SJ.behind (by kernel_rfl)).mpr trivial, ?_⟩))
            obtain ⟨wJ, hwwJ, RJ, gJ⟩ := stI true
            rw [← hwwJ]
            replace R12 := over_blk R12 bI (by decide) rfl gJ
            replace Q21 := Q21.grown gJ ⟨bI, by decide⟩
            replace L := E.below_own L hgI gJ
            replace b6 := blk_grown b6 gJ (E.nes (blk_ne b6 bI (by decide)))
            replace R18 := RJ
            clear RJ gJ bI
            refine E.GJ.done (by kernel_rfl) ?_
            refine E.QG.code ?_
            refine E.CG.list ?_
            refine E.GL.run rfl rfl rfl (E.Runs.move rfl rfl) ?_
            refine E.GL.run rfl rfl rfl (E.Runs.fieldAddr rfl rfl hu98 rfl (by assumption) rfl) ?_
            refine E.GL.run rfl rfl rfl (E.Runs.load rfl rfl hu3 (by first | assumption | exact E.blkc (by assumption) rfl | exact pw_cell_below L (by assumption))) ?_
            refine E.GL.st rfl rfl rfl (E.ST.lit rfl (E.epc rfl E.epn) (lit22 (t : Int)) ?_)
            refine E.GL.st rfl rfl rfl (E.ST.appendQ kI w.heap.size (w0 := w) (s := .tmp 66) (x := .tmp 69) rfl hu22 info3 rfl (by decide) (by decide) (t : Int) rfl rfl (cs := [.int .i64 (t : Int)]) rfl (fun _ _ => trivial) Q21.q L L.size (by have := qsL_len s2.V s2.p; have := hB2.few; omega) fun u70 w70 r70 k70 g70 o70 => ?_)
            obtain ⟨A70, c70, hu70, _⟩ := Kd.Q_slice r70
            subst hu70
            replace R12 := Kd.R_over' R12 (Kd.Q_typed Q21.q) (by decide) g70
            replace R18 := Kd.R_over' R18 (Kd.Q_typed Q21.q) (by decide) g70
            replace L := k70
            replace Q21 : Qw _ _ _ _ := ⟨r70⟩
            clear r70
            refine E.GL.run rfl rfl rfl (E.Runs.assign rfl rfl) ?_
            refine E.GL.done ?_
            refine E.QG.block_normal ?_
            refine E.QG.code ?_
            refine E.CG.list ?_
            refine E.GL.run rfl rfl rfl (E.Runs.add rfl rfl rfl (IntWalk.i64_in _ (by omega))) ?_
            refine E.GL.run rfl rfl rfl (E.Runs.move rfl rfl) ?_
            refine E.GL.done ?_
            exact E.QG.round2 (d := ⟨[], 0, [], [], none, 0⟩) (i + 1) ⟨s2.V ++ [t], s2.p, s2.bl.set t ⟨u, i⟩, s2.il.set t true, A70, c70⟩ (E.subc rfl (E.subc rfl (E.subc rfl (E.subc (by first | rfl | (rw [qsL_snoc hB2.pl]; rfl)) (E.subc rfl (E.subc rfl (E.subc rfl E.subn))))))) (by first | exact ⟨by omega, hp2, hu2, bfs_next hcl hx (fun h => absurd h h44), hB2, R12, R18, Q21, L⟩ | exact ⟨by omega, hp2, hu2, bfs_next hcl hx (fun _ => ⟨t, rfl, (hB2.is t htn).mp hbt⟩), hB2, R12, R18, Q21, L⟩ | exact ⟨by omega, hp2, by rw [List.getElem?_append_left (List.getElem?_eq_some_iff.1 hu2).1]; exact hu2, bfs_next (fun j hj x q1 q2 => by obtain ⟨z, q3, q4⟩ := hcl j hj x q1 q2; exact ⟨z, q3, List.mem_append_left _ q4⟩) hx (fun _ => ⟨t, rfl, by simp⟩), hB2.found hu2 hx rfl htn h44 hbt, R12, R18, by rw [qsL_snoc hB2.pl]; exact Q21, L⟩ | fail) (by omega)
          · refine E.GL.run rfl rfl rfl (E.Runs.indexAddrA (i := t) rfl rfl rfl hu100 z4 o4 htl eI2 (show _ = (⟨gI2, t * 1, none⟩ : Addr) from by rw [Go.Addr.add_mid, Nat.zero_add])) ?_
            refine E.GL.run rfl rfl rfl (E.Runs.load1 rfl rfl hu4 rfl cI2) ?_
            refine E.GL.run rfl rfl rfl (E.Runs.not rfl rfl) ?_
            refine E.GL.run rfl rfl rfl (E.Runs.pick_t rfl rfl rfl) ?_
            refine E.GL.done ?_
            refine E.QG.code ?_
            refine E.CG.cond_f rfl ?_
            refine E.CG.skip ?_
            refine E.QG.block_normal ?_
            refine E.QG.code ?_
            refine E.CG.list ?_
            refine E.GL.run rfl rfl rfl (E.Runs.add rfl rfl rfl (IntWalk.i64_in _ (by omega))) ?_
            refine E.GL.run rfl rfl rfl (E.Runs.move rfl rfl) ?_
            refine E.GL.done ?_
            exact E.QG.round2 (d := ⟨[], 0, [], [], none, 0⟩) (i + 1) s2 (E.subc rfl (E.subc rfl (E.subc rfl (E.subc (by first | rfl | (rw [qsL_snoc hB2.pl]; rfl)) (E.subc rfl (E.subc rfl (E.subc rfl E.subn))))))) (by first | exact ⟨by omega, hp2, hu2, bfs_next hcl hx (fun h => absurd h h44), hB2, R12, R18, Q21, L⟩ | exact ⟨by omega, hp2, hu2, bfs_next hcl hx (fun _ => ⟨t, rfl, (hB2.is t htn).mp hbt⟩), hB2, R12, R18, Q21, L⟩ | exact ⟨by omega, hp2, by rw [List.getElem?_append_left (List.getElem?_eq_some_iff.1 hu2).1]; exact hu2, bfs_next (fun j hj x q1 q2 => by obtain ⟨z, q3, q4⟩ := hcl j hj x q1 q2; exact ⟨z, q3, List.mem_append_left _ q4⟩) hx (fun _ => ⟨t, rfl, by simp⟩), hB2.found hu2 hx rfl htn h44 hbt, R12, R18, by rw [qsL_snoc hB2.pl]; exact Q21, L⟩ | fail) (by omega)
        · refine E.GL.run rfl rfl rfl (E.Runs.move rfl rfl) ?_
          refine E.GL.skip rfl rfl rfl ?_
          refine E.GL.skip rfl rfl rfl ?_
          refine E.GL.skip rfl rfl rfl ?_
          refine E.GL.skip rfl rfl rfl ?_
          refine E.GL.skip rfl rfl rfl ?_
          refine E.GL.skip rfl rfl rfl ?_
          refine E.GL.run rfl rfl rfl (E.Runs.pick_f rfl rfl rfl) ?_
          refine E.GL.done ?_
          refine E.QG.code ?_
          refine E.CG.cond_f rfl ?_
          refine E.CG.skip ?_
          refine E.QG.block_normal ?_
          refine E.QG.code ?_
          refine E.CG.list ?_
          refine E.GL.run rfl rfl rfl (E.Runs.add rfl rfl rfl (IntWalk.i64_in _ (by omega))) ?_
          refine E.GL.run rfl rfl rfl (E.Runs.move rfl rfl) ?_
          refine E.GL.done ?_
          exact E.QG.round2 (d := ⟨[], 0, [], [], none, 0⟩) (i + 1) s2 (E.subc rfl (E.subc rfl (E.subc rfl (E.subc (by first | rfl | (rw [qsL_snoc hB2.pl]; rfl)) (E.subc rfl (E.subc rfl (E.subc rfl E.subn))))))) (by first | exact ⟨by omega, hp2, hu2, bfs_next hcl hx (fun h => absurd h h44), hB2, R12, R18, Q21, L⟩ | exact ⟨by omega, hp2, hu2, bfs_next hcl hx (fun _ => ⟨t, rfl, (hB2.is t htn).mp hbt⟩), hB2, R12, R18, Q21, L⟩ | exact ⟨by omega, hp2, by rw [List.getElem?_append_left (List.getElem?_eq_some_iff.1 hu2).1]; exact hu2, bfs_next (fun j hj x q1 q2 => by obtain ⟨z, q3, q4⟩ := hcl j hj x q1 q2; exact ⟨z, q3, List.mem_append_left _ q4⟩) hx (fun _ => ⟨t, rfl, by simp⟩), hB2.found hu2 hx rfl htn h44 hbt, R12, R18, by rw [qsL_snoc hB2.pl]; exact Q21, L⟩ | fail) (by omega)
      · obtain ⟨_, hqc2, _⟩ := Kd.Q_reads' Q21.q
        have hq0 : 0 < (qsL s2.V s2.p).length := (List.getElem?_eq_some_iff.1 (qsL_at hu2)).1
        have Q26 : Qw _ _ _ _ := ⟨Kd.Q_drop (k := 1) Q21.q (by omega)⟩
        rw [← qsL_pop] at Q26
        have e26 : (qsL s2.V (s2.p + 1)).length = (qsL s2.V s2.p).length - 1 := by rw [qsL_pop, List.length_drop]
        rw [← e26] at Q26
        have hdone : ∀ x ∈ rowP Es f u, 0 < x.f1 → ∃ t : Nat, x.f0 = t ∧ t ∈ s2.V := fun x hx h1 => by obtain ⟨j, hj⟩ := List.mem_iff_getElem?.mp hx; exact hcl j (by have := (List.getElem?_eq_some_iff.1 hj).1; omega) x hj h1
        refine E.GL.done ?_
        refine E.QG.code ?_
        refine E.CG.seq ?_
        refine E.CG.cond_f rfl ?_
        refine E.CG.exit ?_
        refine E.QG.pass_exit ?_
        refine E.QG.pass_exit ?_
        refine E.QG.block_here ?_
        refine E.QG.block_normal ?_
        refine E.QG.code ?_
        refine E.CG.list ?_
        refine E.GL.run rfl rfl rfl (E.Runs.move rfl rfl) ?_
        refine E.GL.run rfl rfl rfl (E.Runs.sliceFrom (i := 1) rfl rfl rfl hu22 z3 o3 (by omega) hqc2 rfl) ?_
        refine E.GL.run rfl rfl rfl (E.Runs.assign rfl rfl) ?_
        refine E.GL.done ?_
        exact E.QG.round ⟨s2.V, s2.p + 1, s2.bl, s2.il, if s2.c = 1 then s2.A else s2.A.map (·.add (1 * 1)), s2.c - 1⟩ (E.subc rfl (E.subc rfl (E.subc rfl (E.subc (by rw [qsL_pop, List.length_drop]; rfl) E.subn)))) ⟨hB2.done hu2 hdone, R12, R18, Q26, L⟩ (by have := hB2.few; have := hB0.few; simp only; omega)
    · refine E.GL.done ?_
      refine E.QG.code ?_
      refine E.CG.cond_f rfl ?_
      refine E.CG.exit ?_
      refine E.QG.pass_exit ?_
      refine E.QG.pass_exit ?_
      refine E.QG.block_here ?_
      refine E.QG.code ?_
      refine E.CG.seq ?_
      refine E.CG.list ?_
      refine E.GL.run rfl rfl rfl (E.Runs.move rfl rfl) ?_
      refine E.GL.run rfl rfl rfl (E.Runs.move rfl rfl) ?_
      refine E.GL.run rfl rfl rfl (E.Runs.assign rfl rfl) ?_
      refine E.GL.run rfl rfl rfl (E.Runs.assign rfl rfl) ?_
      refine E.GL.done ?_
      refine E.QG.code ?_
      refine E.CG.ret ?_
      exact E.QG.result2 rfl rfl rfl ⟨_, _, _, _, _, _, rfl, R12, R18, hB0.ended (by rw [qsL_len] at h24; omega) hn0, L⟩

end Go.Proofs.Ytmnjlnkfihklgaa.T
namespace Go.Proofs.Ytmnjlnkfihklgaa.T
open Go.RowKit Go.Proofs.YtmnjlnkfihklgaaW.PrintWords Go.Proofs.YtmnjlnkfihklgaaW.PrintMore
open Go.Proofs.Ytmnjlnkfihklgaa.P
set_option linter.unusedVariables false
/-- A way from the first node to a node, the last step first. -/
def Way (E : List Ed) (f : Nat → Int) (n : Nat) (bl : List S104) : Nat → List (Nat × Bool) → Prop
  | v, [] => v = 0
  | v, (k, b) :: r => v ≠ 0 ∧ v < n ∧ ∃ e, E[k]? = some e ∧ far e b = v ∧ near e b < n ∧ bl[v]? = some ⟨(near e b : Nat), (idx E (near e b) k : Nat)⟩ ∧ 0 < roomP E f (k, b) ∧ Way E f n bl (near e b) r
/-- No flow is below 0 or above what an edge holds. -/
def FlowOk (E : List Ed) (f : Nat → Int) : Prop := ∀ k e, E[k]? = some e → 0 ≤ f k ∧ f k ≤ e.cap
theorem near_lt {E : List Ed} {n k : Nat} {e : Ed} (hE : EdsOk E n) (h : E[k]? = some e) (b : Bool) : near e b < n := by
  have := hE e (List.mem_of_getElem? h)
  cases b
  · exact this.2.1
  · exact this.1
theorem far_not (e : Ed) (b : Bool) : far e (!b) = near e b := by cases b <;> rfl
theorem way_of {E : List Ed} {f : Nat → Int} {n : Nat} {bl : List S104} {il : List Bool} (h : ReachOk E f n bl il) (hE : EdsOk E n) {v : Nat} (hv : v < n) (hi : il[v]? = some true) : ∃ P, Way E f n bl v P ∧ (P.map Prod.fst).Nodup := by
  obtain ⟨d, hd⟩ := h.back
  suffices H : ∀ (m v : Nat), d v ≤ m → v < n → il[v]? = some true → ∃ P, Way E f n bl v P ∧ (P.map Prod.fst).Nodup ∧ ∀ k b e, (k, b) ∈ P → E[k]? = some e → d (far e b) ≤ d v ∧ d (near e b) < d (far e b) by
    obtain ⟨P, q1, q2, _⟩ := H _ v (Nat.le_refl _) hv hi
    exact ⟨P, q1, q2⟩
  intro m
  induction m with
  | zero =>
    intro v hm hv hi
    by_cases h0 : v = 0
    · exact ⟨[], h0, by simp, fun k b e hk => by cases hk⟩
    · obtain ⟨u, i, x, _, _, _, _, _, _, q⟩ := hd v hv h0 hi
      omega
  | succ m ih =>
    intro v hm hv hi
    by_cases h0 : v = 0
    · exact ⟨[], h0, by simp, fun k b e hk => by cases hk⟩
    · obtain ⟨u, i, x, q1, q2, q3, q4, q5, q6, q7⟩ := hd v hv h0 hi
      obtain ⟨P, p1, p2, p3⟩ := ih u (by omega) q2 q3
      obtain ⟨k, b, e, r1, r2, r3, rfl⟩ := rowP_half q4
      have hne := (hE e (List.mem_of_getElem? r2)).2.2
      rw [entP_is r2] at q5 q6
      have hf : far e b = v := by have : ((far e b : Nat) : Int) = v := q5; omega
      have hidx : i = idx E u k := by
        have := hs_near r2 hne b
        rw [r3] at this
        exact hs_inj r1 this
      refine ⟨(k, b) :: P, ⟨h0, hv, e, r2, hf, near_lt hE r2 b, by rw [r3, ← hidx]; exact q1, q6, by rw [r3]; exact p1⟩, ?_, ?_⟩
      · rw [List.map_cons, List.nodup_cons]
        refine ⟨fun hm => ?_, p2⟩
        obtain ⟨⟨k', b'⟩, m1, m2⟩ := List.mem_map.mp hm
        obtain rfl : k' = k := m2
        obtain ⟨t1, t2⟩ := p3 k' b' e m1 r2
        by_cases hb : b' = b
        · subst hb
          rw [hf] at t1
          omega
        · obtain rfl : b' = !b := by cases b <;> cases b' <;> simp at hb ⊢
          rw [near_not, hf] at t2
          omega
      · intro k' b' e' hm' he'
        rcases List.mem_cons.mp hm' with q | q
        · injection q with q1 q2
          subst q1 q2
          rw [r2] at he'
          cases he'
          rw [hf, r3]
          exact ⟨Nat.le_refl _, q7⟩
        · obtain ⟨t1, t2⟩ := p3 k' b' e' q he'
          exact ⟨by omega, t2⟩
theorem way_congr {E : List Ed} {f g : Nat → Int} {n : Nat} {bl : List S104} : ∀ {P : List (Nat × Bool)} {v : Nat}, (∀ h ∈ P, roomP E g h = roomP E f h) → Way E f n bl v P → Way E g n bl v P
  | [], _, _, h => h
  | (k, b) :: r, v, hr, ⟨h1, h2, e, h3, h4, h5, h6, h7, h8⟩ => ⟨h1, h2, e, h3, h4, h5, h6, by rw [hr _ List.mem_cons_self]; exact h7, way_congr (fun h hm => hr h (List.mem_cons_of_mem _ hm)) h8⟩
/-- One step of a push. -/
theorem way_step {E : List Ed} {f : Nat → Int} {n : Nat} {bl : List S104} {k : Nat} {b : Bool} {r : List (Nat × Bool)} {v : Nat} {e : Ed} {x : Int} (hE : EdsOk E n) (he : E[k]? = some e) (hf : far e b = v) (hw : Way E f n bl (near e b) r) (hnd : (((k, b) :: r).map Prod.fst).Nodup) (hx : ∀ h ∈ (k, b) :: r, x ≤ roomP E f h) (h0 : 0 ≤ x) (ho : FlowOk E f) :
    Way E (upd f k (sgn b x)) n bl (near e b) r ∧ (r.map Prod.fst).Nodup ∧ (∀ h ∈ r, x ≤ roomP E (upd f k (sgn b x)) h) ∧ FlowOk E (upd f k (sgn b x)) ∧
      ∀ u, exc (upd f k (sgn b x)) u E 0 = exc f u E 0 + (if v = u then x else 0) - (if near e b = u then x else 0) := by
  rw [List.map_cons, List.nodup_cons] at hnd
  have hr : ∀ h ∈ r, roomP E (upd f k (sgn b x)) h = roomP E f h := fun h hm => by
    obtain ⟨j, c⟩ := h
    exact room_upd_other c _ (fun q => hnd.1 (by subst q; exact List.mem_map.mpr ⟨_, hm, rfl⟩))
  refine ⟨way_congr hr hw, hnd.2, fun h hm => by rw [hr h hm]; exact hx h (List.mem_cons_of_mem _ hm), fun j a ha => ?_, fun u => ?_⟩
  · by_cases q : j = k
    · subst q
      rw [he] at ha
      cases ha
      have h1 := hx _ List.mem_cons_self
      have h2 := ho j e he
      rw [upd_same]
      unfold roomP at h1
      rw [getD_at he] at h1
      cases b
      · simp only [sgn, Bool.false_eq_true, if_false] at h1 ⊢
        omega
      · simp only [sgn, if_true] at h1 ⊢
        omega
    · rw [upd_other f _ q]
      exact ho j a ha
  · have := exc_upd f u (sgn b x) E 0 k e he
    rw [Nat.zero_add] at this
    rw [this]
    subst hf
    cases b
    · simp only [near, far, sgn, Bool.false_eq_true, if_false]
      split <;> split <;> omega
    · simp only [near, far, sgn, if_true]
/-- What a push has done. -/
def PushOk (E : List Ed) (n : Nat) (f g : Nat → Int) (r : Int) : Prop :=
  (r = 0 ∧ g = f ∧ ∃ bl il, ReachOk E f n bl il ∧ il[1]? = some false) ∨ (0 < r ∧ FlowOk E g ∧ ∀ u, exc g u E 0 = exc f u E 0 + (if u = 1 then r else 0) - (if u = 0 then r else 0))
end Go.Proofs.Ytmnjlnkfihklgaa.T
namespace Go.Proofs.Ytmnjlnkfihklgaa.E
open Go.RowKit Go.Proofs.YtmnjlnkfihklgaaW.PrintWords Go.Proofs.YtmnjlnkfihklgaaW.PrintMore
open Go.Proofs.Ytmnjlnkfihklgaa.T
set_option linter.unusedVariables false
set_option linter.unusedSimpArgs false
section
variable {P : Program} {Q : Exit → Act → World → Prop} {N : Nat} {w : World} {env : Env} {o : Oper} {K : Value → World → Prop}
theorem ST.storeN {ty : TypeId} {x y : Operand} {b off : Nat} {m : Int} {old : Value} (ho : o.op = .store ty x y) (hz : Sized P ty) (hz1 : P.cellsOf ty = 1) (hx : Ev env x (.pointer (some ⟨b, off, none⟩))) (hy : Ev env y (.int .i64 m))
    (h1 : w.cell? ⟨b, off, none⟩ = some old) (h2 : w.frozen? ⟨b, off, none⟩ = false) (h : K undef (w.setCell ⟨b, off, none⟩ (.int .i64 m))) : ST P Q N env w o K := by
  intro a ha Kc hK
  have hr : (execOp a.eval o).run P w = .ok .skip (w.setCell ⟨b, off, none⟩ (.int .i64 m)) := by
    unfold execOp; rw [ho]; simp only []; rw [ha.eval hx, ha.eval hy]
    obtain ⟨inf, q1, q2⟩ := hz
    simp [go_sem, run_sizeOf w q1, hz1, h1, h2]
  unfold Oper.wp
  rw [hr]
  exact hK _ _ h
end
end Go.Proofs.Ytmnjlnkfihklgaa.E
