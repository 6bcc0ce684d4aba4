/- Texts of this claim, put together: A2, A3, N3, N4, N5, A4, A5, A6, E18, A7, A8. -/
import Derived.Test.YtiplichdhcmjdaaG1
import Derived.ChangeKeysEq
namespace Go.Proofs.Ytiplichdhcmjdaa.T
open Go.RowKit Go.Proofs.YtiplichdhcmjdaaW.PrintWords Go.Proofs.YtiplichdhcmjdaaW.PrintMore
open Go.Proofs.Ytiplichdhcmjdaa.P
set_option linter.unusedVariables false
set_option linter.unusedSimpArgs false

def AllR (l : List Int) (lo hi : Int) : Prop := ∀ x ∈ l, lo ≤ x ∧ x ≤ hi
instance (l : List Int) (lo hi : Int) : Decidable (AllR l lo hi) := by unfold AllR; infer_instance
structure Sz (V : Ev) : Prop where
  p : V.ps.length ≤ 1000000
  q : V.qs.length ≤ 1000000
  t : V.ts.length ≤ 1000000
  c : V.cs.length ≤ 1000000
  s : ∀ x ∈ V.cs, x.f0.length ≤ 1000000
theorem VOk.sz {V : Ev} (h : VOk V) : Sz V := ⟨by have := h.n3; omega, by have := h.nq; have := h.n3; omega, by have := h.nt; have := h.n3; omega, by have := h.c4; omega, fun x hx => by have := (h.c x hx).1; have := h.n3; omega⟩
theorem C_nums {w : World} {g : Nat} (l : List Int) (hb : w.heap[g]? = some (.cells (l.map (Value.int .i64)).toArray 3 (0, 0))) (hn : l.length ≤ 1000000) : Kd.C kI w (some ⟨g, 0, none⟩) l.length l := by
  refine ⟨rfl, by omega, fun _ => ⟨_, rfl, ?_⟩⟩
  intro j p hj
  refine ⟨[.int .i64 p], rfl, rfl, fun i u hu => ?_⟩
  have hi : i = 0 := by have := (List.getElem?_eq_some_iff.1 hu).1; simpa using this
  subst hi
  rw [Addr.add_mid, Nat.zero_add, blk_cell hb]
  have : (l.map (Value.int .i64))[j]? = some u := by rw [List.getElem?_map, hj]; exact hu
  show (l.map (Value.int .i64)).toArray[j * 1 + 0]? = some u
  simpa using this
set_option maxRecDepth 100000 in
theorem lit22_4 (a b c d : Int) (W : World) : (Instr.buildSlice 22 4 #[(0, .int .i64 a), (1, .int .i64 b), (2, .int .i64 c), (3, .int .i64 d)]).run Try.prog W = .ok (.slice (some ⟨W.heap.size, 0, none⟩) 4 4) (W.alloc (.cells (([a, b, c, d] : List Int).map (Value.int .i64)).toArray 3 (0, 0))) := by
  have hu22 := Try.underlying22
  go_simp
set_option maxRecDepth 100000 in
set_option maxHeartbeats 8000000 in

theorem clo80 (x : Int) (r : Bool) (hb : r = true ↔ ¬ inR x 0 20) (w : World) :
    Calls Try.prog 80 #[.int .i64 x] w fun e w' => e = .returned (.bool r) ∧ Below w.heap.size w w' := by
  refine E.enter (N := 6) Try.func80 rfl Try.ntmps80 (args := [.int .i64 x]) (by simp) ?_
  have L := Below.refl w.heap.size w
  refine E.CG.seq ?_
  refine E.CG.list ?_
  refine E.GL.run rfl rfl rfl (E.Runs.assign rfl rfl) ?_
  refine E.GL.done ?_
  refine E.QG.code ?_
  refine E.CG.seq ?_
  refine E.CG.list ?_
  refine E.GL.run rfl rfl rfl (E.Runs.move rfl rfl) ?_
  by_cases h4 : inR x 0 20
  · refine E.GL.st rfl rfl rfl (E.ST.call rfl ent67 (E.evc rfl (E.evc rfl (E.evc rfl E.evn))) ((within_o x 0 20 true (iff_of_true rfl h4) _).mono ?_))
    rintro e w4 ⟨rfl, l4⟩
    refine ⟨_, rfl, ?_⟩
    replace L := below_step L l4
    refine E.GL.run rfl rfl rfl (E.Runs.not rfl rfl) ?_
    refine E.GL.run rfl rfl rfl (E.Runs.assign rfl rfl) ?_
    refine E.GL.done ?_
    refine E.QG.code ?_
    refine E.CG.ret ?_
    exact E.QG.result rfl rfl ⟨by rw [bool_no hb (fun k => k h4)]; rfl, L⟩
  · refine E.GL.st rfl rfl rfl (E.ST.call rfl ent67 (E.evc rfl (E.evc rfl (E.evc rfl E.evn))) ((within_o x 0 20 false (iff_of_false Bool.false_ne_true h4) _).mono ?_))
    rintro e w4 ⟨rfl, l4⟩
    refine ⟨_, rfl, ?_⟩
    replace L := below_step L l4
    refine E.GL.run rfl rfl rfl (E.Runs.not rfl rfl) ?_
    refine E.GL.run rfl rfl rfl (E.Runs.assign rfl rfl) ?_
    refine E.GL.done ?_
    refine E.QG.code ?_
    refine E.CG.ret ?_
    exact E.QG.result rfl rfl ⟨by rw [hb.mpr h4]; rfl, L⟩

set_option maxRecDepth 100000 in
set_option maxHeartbeats 8000000 in

theorem index84 (l : List Int) (A : Option Addr) (c : Nat) (w : World) (hr : Kd.C kI w A l.length l) (hn : l.length ≤ 1000000) :
    Calls Try.prog 84 #[.slice A l.length c, .func (.func 80) #[] #[]] w fun e w' => ∃ r : Int, e = .returned (.int .i64 r) ∧ (0 ≤ r ↔ ¬ AllR l 0 20) ∧ Below w.heap.size w w' := by
  have hu3 := Try.underlying3
  have hu22 := Try.underlying22
  obtain ⟨z3, o3⟩ := info_some info3s (by decide)
  refine E.enter (N := 19) Try.func84 rfl Try.ntmps84 (args := [.slice A l.length c, .func (.func 80) #[] #[]]) (by simp) ?_
  have L := Below.refl w.heap.size w
  refine E.CG.seq ?_
  refine E.CG.list ?_
  refine E.GL.run rfl rfl rfl (E.Runs.assign rfl rfl) ?_
  refine E.GL.done ?_
  refine E.QG.code ?_
  refine E.CG.seq ?_
  refine E.CG.seq ?_
  refine E.CG.list ?_
  refine E.GL.run rfl rfl rfl (E.Runs.move rfl rfl) ?_
  refine E.GL.run rfl rfl rfl (E.Runs.len rfl rfl hu22) ?_
  refine E.GL.run rfl rfl rfl (E.Runs.move rfl rfl) ?_
  refine E.GL.done ?_
  refine E.QG.code ?_
  refine E.CG.block ?_
  have s2_L := L
  refine E.CG.loop (fun (i : Nat) => [(0, .slice A l.length c), (1, .func (.func 80) #[] #[]), (7, .int .i64 l.length), (8, .int .i64 i)]) (fun i w' => i ≤ l.length ∧ Below w.heap.size w w' ∧ ∀ k, k < i → ∀ x, l[k]? = some x → 0 ≤ x ∧ x ≤ 20) (fun i => l.length - i) 0 (E.subc rfl (E.subc rfl (E.subc rfl (E.subc rfl E.subn)))) ⟨Nat.zero_le _, L, fun k hk => by omega⟩ ?_
  rintro i w2 ⟨hi, L, hok⟩
  refine E.CG.seq ?_
  refine E.CG.list ?_
  refine E.GL.cmp rfl rfl rfl (fun _ h => (E.Runs.lss rfl rfl rfl h)) (fun h9 => ?_) (fun h9 => ?_)
  · obtain ⟨x, hx⟩ := get_ex (show i < l.length by omega)
    obtain ⟨ad, eA, X⟩ := int_at hr hx
    refine E.GL.done ?_
    refine E.QG.code ?_
    refine E.CG.seq ?_
    refine E.CG.cond_t rfl ?_
    refine E.CG.skip ?_
    refine E.QG.code ?_
    refine E.CG.seq ?_
    refine E.CG.block ?_
    refine E.CG.seq ?_
    refine E.CG.list ?_
    refine E.GL.run rfl rfl rfl (E.Runs.move rfl rfl) ?_
    refine E.GL.run rfl rfl rfl (E.Runs.assign rfl rfl) ?_
    refine E.GL.done ?_
    refine E.QG.code ?_
    refine E.CG.seq ?_
    refine E.CG.list ?_
    refine E.GL.run rfl rfl rfl (E.Runs.move rfl rfl) ?_
    refine E.GL.run rfl rfl rfl (E.Runs.move rfl rfl) ?_
    refine E.GL.run rfl rfl rfl (E.Runs.move rfl rfl) ?_
    refine E.GL.run rfl rfl rfl (E.Runs.indexAddrA (i := i) rfl rfl rfl hu22 z3 o3 (by omega) eA rfl) ?_
    refine E.GL.run rfl rfl rfl (E.Runs.load rfl rfl hu3 (pw_cell_below L X)) ?_
    by_cases h16 : ¬ inR x 0 20
    · refine E.GL.st rfl rfl rfl (E.ST.callV (cap := []) rfl ent80 rfl (E.evc rfl E.evn) ((clo80 x true (iff_of_true rfl h16) _).mono ?_))
      rintro e w16 ⟨rfl, l16⟩
      refine ⟨_, rfl, ?_⟩
      replace L := below_step L l16
      refine E.GL.done ?_
      refine E.QG.code ?_
      refine E.CG.cond_t rfl ?_
      refine E.CG.seq ?_
      refine E.CG.list ?_
      refine E.GL.run rfl rfl rfl (E.Runs.move rfl rfl) ?_
      refine E.GL.run rfl rfl rfl (E.Runs.assign rfl rfl) ?_
      refine E.GL.done ?_
      refine E.QG.code ?_
      refine E.CG.ret ?_
      refine E.QG.block_ret ?_
      refine E.QG.pass_ret ?_
      refine E.QG.pass_ret ?_
      refine E.QG.block_ret ?_
      refine E.QG.pass_ret ?_
      exact E.QG.result rfl rfl ⟨_, rfl, iff_of_true (by omega) (fun k => h16 (k x (List.mem_of_getElem? hx))), L⟩
    · refine E.GL.st rfl rfl rfl (E.ST.callV (cap := []) rfl ent80 rfl (E.evc rfl E.evn) ((clo80 x false (iff_of_false Bool.false_ne_true h16) _).mono ?_))
      rintro e w16 ⟨rfl, l16⟩
      refine ⟨_, rfl, ?_⟩
      replace L := below_step L l16
      refine E.GL.done ?_
      refine E.QG.code ?_
      refine E.CG.cond_f rfl ?_
      refine E.CG.skip ?_
      refine E.QG.block_normal ?_
      refine E.QG.code ?_
      refine E.CG.list ?_
      refine E.GL.run rfl rfl rfl (E.Runs.add rfl rfl rfl (IntWalk.i64_in _ (by omega))) ?_
      refine E.GL.run rfl rfl rfl (E.Runs.move rfl rfl) ?_
      refine E.GL.done ?_
      exact E.QG.round (i + 1) (E.subc rfl (E.subc rfl (E.subc rfl (E.subc rfl E.subn)))) ⟨by omega, L, all_more hok hx (Decidable.not_not.mp h16)⟩ (by omega)
  · refine E.GL.done ?_
    refine E.QG.code ?_
    refine E.CG.seq ?_
    refine E.CG.cond_f rfl ?_
    refine E.CG.exit ?_
    refine E.QG.pass_exit ?_
    refine E.QG.pass_exit ?_
    refine E.QG.block_here ?_
    refine E.QG.code ?_
    refine E.CG.seq ?_
    refine E.CG.list ?_
    refine E.GL.run rfl rfl rfl (E.Runs.assign rfl rfl) ?_
    refine E.GL.done ?_
    refine E.QG.code ?_
    refine E.CG.ret ?_
    exact E.QG.result rfl rfl ⟨_, rfl, iff_of_false (by omega) (fun k => k (all_done hok (by omega))), L⟩

set_option maxRecDepth 100000 in
set_option maxHeartbeats 8000000 in

theorem contains81 (l : List Int) (A : Option Addr) (c : Nat) (w : World) (r : Bool) (hb : r = true ↔ ¬ AllR l 0 20) (hr : Kd.C kI w A l.length l) (hn : l.length ≤ 1000000) :
    Calls Try.prog 81 #[.slice A l.length c, .func (.func 80) #[] #[]] w fun e w' => e = .returned (.bool r) ∧ Below w.heap.size w w' := by
  have hu3 := Try.underlying3
  have hu22 := Try.underlying22
  refine E.enter (N := 9) Try.func81 rfl Try.ntmps81 (args := [.slice A l.length c, .func (.func 80) #[] #[]]) (by simp) ?_
  have L := Below.refl w.heap.size w
  refine E.CG.seq ?_
  refine E.CG.list ?_
  refine E.GL.run rfl rfl rfl (E.Runs.assign rfl rfl) ?_
  refine E.GL.done ?_
  refine E.QG.code ?_
  refine E.CG.seq ?_
  refine E.CG.list ?_
  refine E.GL.run rfl rfl rfl (E.Runs.move rfl rfl) ?_
  refine E.GL.run rfl rfl rfl (E.Runs.move rfl rfl) ?_
  refine E.GL.st rfl rfl rfl (E.ST.call rfl ent84 (E.evc rfl (E.evc rfl E.evn)) ((index84 l A c _ (Kd.C_below hr L) hn).mono ?_))
  rintro e w7 ⟨q, rfl, hq, l7⟩
  refine ⟨_, rfl, ?_⟩
  replace L := below_step L l7
  refine E.GL.cmp rfl rfl rfl (fun _ h => (E.Runs.geq rfl rfl rfl h)) (fun h8 => ?_) (fun h8 => ?_)
  · refine E.GL.run rfl rfl rfl (E.Runs.assign rfl rfl) ?_
    refine E.GL.done ?_
    refine E.QG.code ?_
    refine E.CG.ret ?_
    exact E.QG.result rfl rfl ⟨by rw [hb.mpr (hq.mp h8)], L⟩
  · refine E.GL.run rfl rfl rfl (E.Runs.assign rfl rfl) ?_
    refine E.GL.done ?_
    refine E.QG.code ?_
    refine E.CG.ret ?_
    exact E.QG.result rfl rfl ⟨by rw [bool_no hb (fun k => h8 (hq.mpr k))], L⟩

set_option maxRecDepth 100000 in
set_option maxHeartbeats 8000000 in

theorem isCounter_calls (x : S40) (a0 : Option Addr) (k0 : Nat) (w : World) (hx0 : Kd.C kI w a0 x.f0.length x.f0) (hxn : x.f0.length ≤ 1000000) (n : Nat) (r : Bool) (hr : r = true ↔ COk n x) :
    Calls Try.prog 70 #[.agg #[.slice a0 x.f0.length k0, .int .i64 x.f1, .int .i64 x.f2, .int .i64 x.f3, .int .i64 x.f4, .int .i64 x.f5], .int .i64 n] w fun e w' => e = .returned (.bool r) ∧ Below w.heap.size w w' := by
  have hu3 := Try.underlying3
  have hu22 := Try.underlying22
  have hu40 := Try.underlying40
  obtain ⟨z3, o3⟩ := info_some info3s (by decide)
  obtain ⟨z22, o22⟩ := info_some info22s (by decide)
  obtain ⟨z40, o40⟩ := info_some info40s (by decide)
  refine E.enter (N := 52) Try.func70 rfl Try.ntmps70 (args := [.agg #[.slice a0 x.f0.length k0, .int .i64 x.f1, .int .i64 x.f2, .int .i64 x.f3, .int .i64 x.f4, .int .i64 x.f5], .int .i64 (n : Int)]) (by simp) ?_
  have L := Below.refl w.heap.size w
  refine E.CG.seq ?_
  refine E.CG.list ?_
  refine E.GL.st rfl rfl rfl (E.ST.box rfl rfl fun g2 w2 e2 b2 l2 => ?_)
  have h2_L : w.heap.size ≤ g2 := by rw [e2]; exact L.size
  replace L := below_step L l2
  refine E.GL.run rfl rfl rfl (E.Runs.assign rfl rfl) ?_
  refine E.GL.done ?_
  refine E.QG.code ?_
  refine E.CG.seq ?_
  refine E.CG.list ?_
  refine E.GL.run rfl rfl rfl (E.Runs.assign rfl rfl) ?_
  refine E.GL.done ?_
  refine E.QG.code ?_
  refine E.CG.seq ?_
  refine E.CG.seq ?_
  refine E.CG.list ?_
  refine E.GL.run rfl rfl rfl (E.Runs.fieldAddr rfl rfl hu40 rfl (by assumption) rfl) ?_
  refine E.GL.run rfl rfl rfl (E.Runs.load rfl rfl hu3 (by first | assumption | exact E.blkc (by assumption) rfl | exact pw_cell_below L (by assumption))) ?_
  refine E.GL.run rfl rfl rfl (E.Runs.fieldAddr rfl rfl hu40 rfl (by assumption) rfl) ?_
  refine E.GL.run rfl rfl rfl (E.Runs.load rfl rfl hu3 (by first | assumption | exact E.blkc (by assumption) rfl | exact pw_cell_below L (by assumption))) ?_
  refine E.GL.run rfl rfl rfl (E.Runs.fieldAddr rfl rfl hu40 rfl (by assumption) rfl) ?_
  refine E.GL.run rfl rfl rfl (E.Runs.load rfl rfl hu3 (by first | assumption | exact E.blkc (by assumption) rfl | exact pw_cell_below L (by assumption))) ?_
  refine E.GL.run rfl rfl rfl (E.Runs.fieldAddr rfl rfl hu40 rfl (by assumption) rfl) ?_
  refine E.GL.run rfl rfl rfl (E.Runs.load rfl rfl hu3 (by first | assumption | exact E.blkc (by assumption) rfl | exact pw_cell_below L (by assumption))) ?_
  refine E.GL.st rfl rfl rfl (E.ST.litB (cs := (([x.f1, x.f2, x.f4, x.f5] : List Int).map (Value.int .i64)).toArray) rfl (E.epc rfl (E.epc rfl (E.epc rfl (E.epc rfl E.epn)))) (lit22_4 _ _ _ _) fun g16 w16 e16 b16 l16 => ?_)
  have h16_L : w.heap.size ≤ g16 := by rw [e16]; exact L.size
  have n16_b2 : g2 ≠ g16 := by have := blk_lt b2; omega
  replace b2 := blk_below b2 l16
  replace L := below_step L l16
  refine E.GL.run rfl rfl rfl (E.Runs.len rfl rfl hu22) ?_
  refine E.GL.run rfl rfl rfl (E.Runs.move rfl rfl) ?_
  refine E.GL.done ?_
  refine E.QG.code ?_
  refine E.CG.block ?_
  have s3_b2 := b2
  have s3_b16 := b16
  have s3_L := L
  refine E.CG.loop (fun (i : Nat) => [(1, .int .i64 n), (2, .pointer (some ⟨g2, 0, none⟩)), (5, .func (.func 80) #[] #[]), (16, .slice (some ⟨g16, 0, none⟩) 4 4), (17, .int .i64 4), (18, .int .i64 i)]) (fun i w' => i ≤ 4 ∧ (∀ k, k < i → ∀ y, ([x.f1, x.f2, x.f4, x.f5] : List Int)[k]? = some y → 0 ≤ y ∧ y ≤ 9999) ∧ w'.heap[g2]? = some (.cells #[.slice a0 x.f0.length k0, .int .i64 x.f1, .int .i64 x.f2, .int .i64 x.f3, .int .i64 x.f4, .int .i64 x.f5] 40 (0, 0)) ∧ w'.heap[g16]? = some (.cells (([x.f1, x.f2, x.f4, x.f5] : List Int).map (Value.int .i64)).toArray 3 (0, 0)) ∧ Below w.heap.size w w') (fun i => 4 - i) 0 (E.subc rfl (E.subc rfl (E.subc rfl (E.subc rfl (E.subc rfl (E.subc rfl E.subn)))))) ⟨Nat.zero_le _, fun k hk => by omega, b2, b16, L⟩ ?_
  rintro i w3 ⟨hi, hok, b2, b16, L⟩
  refine E.CG.seq ?_
  refine E.CG.list ?_
  refine E.GL.cmp rfl rfl rfl (fun _ h => (E.Runs.lss rfl rfl rfl h)) (fun h19 => ?_) (fun h19 => ?_)
  · obtain ⟨y, hy⟩ := get_ex (show i < ([x.f1, x.f2, x.f4, x.f5] : List Int).length by show i < 4; omega)
    obtain ⟨ad, eA, X⟩ := int_at (C_nums [x.f1, x.f2, x.f4, x.f5] b16 (show 4 ≤ 1000000 by decide)) hy
    refine E.GL.done ?_
    refine E.QG.code ?_
    refine E.CG.seq ?_
    refine E.CG.cond_t rfl ?_
    refine E.CG.skip ?_
    refine E.QG.code ?_
    refine E.CG.seq ?_
    refine E.CG.block ?_
    refine E.CG.seq ?_
    refine E.CG.list ?_
    refine E.GL.run rfl rfl rfl (E.Runs.indexAddrA (i := i) rfl rfl rfl hu22 z3 o3 (by omega) eA rfl) ?_
    refine E.GL.run rfl rfl rfl (E.Runs.load rfl rfl hu3 X) ?_
    refine E.GL.run rfl rfl rfl (E.Runs.assign rfl rfl) ?_
    refine E.GL.done ?_
    refine E.QG.code ?_
    refine E.CG.seq ?_
    refine E.CG.list ?_
    refine E.GL.run rfl rfl rfl (E.Runs.move rfl rfl) ?_
    by_cases h23 : inR y 0 9999
    · refine E.GL.st rfl rfl rfl (E.ST.call rfl ent67 (E.evc rfl (E.evc rfl (E.evc rfl E.evn))) ((within_o y 0 9999 true (iff_of_true rfl h23) _).mono ?_))
      rintro e w23 ⟨rfl, l23⟩
      refine ⟨_, rfl, ?_⟩
      replace b2 := blk_below b2 l23
      replace b16 := blk_below b16 l23
      replace L := below_step L l23
      refine E.GL.run rfl rfl rfl (E.Runs.not rfl rfl) ?_
      refine E.GL.done ?_
      refine E.QG.code ?_
      refine E.CG.cond_f rfl ?_
      refine E.CG.skip ?_
      refine E.QG.block_normal ?_
      refine E.QG.code ?_
      refine E.CG.list ?_
      refine E.GL.run rfl rfl rfl (E.Runs.add rfl rfl rfl (IntWalk.i64_in _ (by omega))) ?_
      refine E.GL.run rfl rfl rfl (E.Runs.move rfl rfl) ?_
      refine E.GL.done ?_
      exact E.QG.round (i + 1) (E.subc rfl (E.subc rfl (E.subc rfl (E.subc rfl (E.subc rfl (E.subc rfl E.subn)))))) ⟨by omega, all_more hok hy h23, b2, b16, L⟩ (by omega)
    · refine E.GL.st rfl rfl rfl (E.ST.call rfl ent67 (E.evc rfl (E.evc rfl (E.evc rfl E.evn))) ((within_o y 0 9999 false (iff_of_false Bool.false_ne_true h23) _).mono ?_))
      rintro e w23 ⟨rfl, l23⟩
      refine ⟨_, rfl, ?_⟩
      replace b2 := blk_below b2 l23
      replace b16 := blk_below b16 l23
      replace L := below_step L l23
      refine E.GL.run rfl rfl rfl (E.Runs.not rfl rfl) ?_
      refine E.GL.done ?_
      refine E.QG.code ?_
      refine E.CG.cond_t rfl ?_
      refine E.CG.seq ?_
      refine E.CG.list ?_
      refine E.GL.run rfl rfl rfl (E.Runs.assign rfl rfl) ?_
      refine E.GL.done ?_
      refine E.QG.code ?_
      refine E.CG.ret ?_
      refine E.QG.block_ret ?_
      refine E.QG.pass_ret ?_
      refine E.QG.pass_ret ?_
      refine E.QG.block_ret ?_
      refine E.QG.pass_ret ?_
      exact E.QG.result rfl rfl ⟨by rw [bool_no hr (fun k => h23 (by
        have hm := List.mem_of_getElem? hy
        simp only [List.mem_cons, List.not_mem_nil, or_false] at hm
        obtain ⟨_, _, q1, q2, q3, q4, _⟩ := k
        rcases hm with rfl | rfl | rfl | rfl
        · exact q1
        · exact q2
        · exact q3
        · exact q4))] <;> rfl, L⟩
  · have hall : ∀ y ∈ ([x.f1, x.f2, x.f4, x.f5] : List Int), 0 ≤ y ∧ y ≤ 9999 := all_done hok (show 4 ≤ i by omega)
    have hf1 := hall x.f1 (by simp)
    have hf2 := hall x.f2 (by simp)
    have hf4 := hall x.f4 (by simp)
    have hf5 := hall x.f5 (by simp)
    refine E.GL.done ?_
    refine E.QG.code ?_
    refine E.CG.seq ?_
    refine E.CG.cond_f rfl ?_
    refine E.CG.exit ?_
    refine E.QG.pass_exit ?_
    refine E.QG.pass_exit ?_
    refine E.QG.block_here ?_
    refine E.QG.code ?_
    refine E.CG.seq ?_
    refine E.CG.list ?_
    refine E.GL.run rfl rfl rfl (E.Runs.fieldAddr rfl rfl hu40 rfl (by assumption) rfl) ?_
    refine E.GL.run rfl rfl rfl (E.Runs.load1 rfl rfl hu22 rfl (by first | assumption | exact E.blkc (by assumption) rfl | exact pw_cell_below L (by assumption))) ?_
    refine E.GL.run rfl rfl rfl (E.Runs.len rfl rfl hu22) ?_
    refine E.GL.run rfl rfl rfl (E.Runs.move rfl rfl) ?_
    refine E.GL.cmp rfl rfl rfl (fun _ h => (E.Runs.eql rfl rfl rfl h)) (fun h30 => ?_) (fun h30 => ?_)
    · refine E.GL.run rfl rfl rfl (E.Runs.move rfl rfl) ?_
      refine E.GL.run rfl rfl rfl (E.Runs.fieldAddr rfl rfl hu40 rfl (by assumption) rfl) ?_
      refine E.GL.run rfl rfl rfl (E.Runs.load1 rfl rfl hu22 rfl (by first | assumption | exact E.blkc (by assumption) rfl | exact pw_cell_below L (by assumption))) ?_
      refine E.GL.run rfl rfl rfl (E.Runs.move rfl rfl) ?_
      by_cases h35 : ¬ AllR x.f0 0 20
      · refine E.GL.st rfl rfl rfl (E.ST.call rfl ent81 (E.evc rfl (E.evc rfl E.evn)) ((contains81 x.f0 a0 k0 _ true (iff_of_true rfl h35) (Kd.C_below hx0 L) hxn).mono ?_))
        rintro e w35 ⟨rfl, l35⟩
        refine ⟨_, rfl, ?_⟩
        replace b2 := blk_below b2 l35
        replace b16 := blk_below b16 l35
        replace L := below_step L l35
        refine E.GL.run rfl rfl rfl (E.Runs.not rfl rfl) ?_
        refine E.GL.run rfl rfl rfl (E.Runs.pick_t rfl rfl rfl) ?_
        refine E.GL.run rfl rfl rfl (E.Runs.move rfl rfl) ?_
        refine E.GL.skip rfl rfl rfl ?_
        refine E.GL.skip rfl rfl rfl ?_
        refine E.GL.skip rfl rfl rfl ?_
        refine E.GL.skip rfl rfl rfl ?_
        refine E.GL.skip rfl rfl rfl ?_
        refine E.GL.run rfl rfl rfl (E.Runs.pick_f rfl rfl rfl) ?_
        refine E.GL.run rfl rfl rfl (E.Runs.move rfl rfl) ?_
        refine E.GL.skip rfl rfl rfl ?_
        refine E.GL.skip rfl rfl rfl ?_
        refine E.GL.skip rfl rfl rfl ?_
        refine E.GL.skip rfl rfl rfl ?_
        refine E.GL.skip rfl rfl rfl ?_
        refine E.GL.run rfl rfl rfl (E.Runs.pick_f rfl rfl rfl) ?_
        refine E.GL.run rfl rfl rfl (E.Runs.assign rfl rfl) ?_
        refine E.GL.done ?_
        refine E.QG.code ?_
        refine E.CG.ret ?_
        exact E.QG.result rfl rfl ⟨by rw [bool_no hr (fun k => h35 k.2.1)] <;> rfl, L⟩
      · refine E.GL.st rfl rfl rfl (E.ST.call rfl ent81 (E.evc rfl (E.evc rfl E.evn)) ((contains81 x.f0 a0 k0 _ false (iff_of_false Bool.false_ne_true h35) (Kd.C_below hx0 L) hxn).mono ?_))
        rintro e w35 ⟨rfl, l35⟩
        refine ⟨_, rfl, ?_⟩
        replace b2 := blk_below b2 l35
        replace b16 := blk_below b16 l35
        replace L := below_step L l35
        refine E.GL.run rfl rfl rfl (E.Runs.not rfl rfl) ?_
        refine E.GL.run rfl rfl rfl (E.Runs.pick_t rfl rfl rfl) ?_
        refine E.GL.run rfl rfl rfl (E.Runs.move rfl rfl) ?_
        refine E.GL.run rfl rfl rfl (E.Runs.move rfl rfl) ?_
        refine E.GL.run rfl rfl rfl (E.Runs.fieldAddr rfl rfl hu40 rfl (by assumption) rfl) ?_
        refine E.GL.run rfl rfl rfl (E.Runs.load rfl rfl hu3 (by first | assumption | exact E.blkc (by assumption) rfl | exact pw_cell_below L (by assumption))) ?_
        by_cases h42 : ¬ inR x.f3 0 20
        · refine E.GL.st rfl rfl rfl (E.ST.callV (cap := []) rfl ent80 rfl (E.evc rfl E.evn) ((clo80 x.f3 true (iff_of_true rfl h42) _).mono ?_))
          rintro e w42 ⟨rfl, l42⟩
          refine ⟨_, rfl, ?_⟩
          replace b2 := blk_below b2 l42
          replace b16 := blk_below b16 l42
          replace L := below_step L l42
          refine E.GL.run rfl rfl rfl (E.Runs.not rfl rfl) ?_
          refine E.GL.run rfl rfl rfl (E.Runs.pick_t rfl rfl rfl) ?_
          refine E.GL.run rfl rfl rfl (E.Runs.move rfl rfl) ?_
          refine E.GL.skip rfl rfl rfl ?_
          refine E.GL.skip rfl rfl rfl ?_
          refine E.GL.skip rfl rfl rfl ?_
          refine E.GL.skip rfl rfl rfl ?_
          refine E.GL.skip rfl rfl rfl ?_
          refine E.GL.run rfl rfl rfl (E.Runs.pick_f rfl rfl rfl) ?_
          refine E.GL.run rfl rfl rfl (E.Runs.assign rfl rfl) ?_
          refine E.GL.done ?_
          refine E.QG.code ?_
          refine E.CG.ret ?_
          exact E.QG.result rfl rfl ⟨by rw [bool_no hr (fun k => h42 k.2.2.2.2.2.2.1)] <;> rfl, L⟩
        · have hf3 : 0 ≤ x.f3 ∧ x.f3 ≤ 20 := Decidable.not_not.mp h42
          refine E.GL.st rfl rfl rfl (E.ST.callV (cap := []) rfl ent80 rfl (E.evc rfl E.evn) ((clo80 x.f3 false (iff_of_false Bool.false_ne_true h42) _).mono ?_))
          rintro e w42 ⟨rfl, l42⟩
          refine ⟨_, rfl, ?_⟩
          replace b2 := blk_below b2 l42
          replace b16 := blk_below b16 l42
          replace L := below_step L l42
          refine E.GL.run rfl rfl rfl (E.Runs.not rfl rfl) ?_
          refine E.GL.run rfl rfl rfl (E.Runs.pick_t rfl rfl rfl) ?_
          refine E.GL.run rfl rfl rfl (E.Runs.move rfl rfl) ?_
          refine E.GL.run rfl rfl rfl (E.Runs.move rfl rfl) ?_
          refine E.GL.run rfl rfl rfl (E.Runs.loads (cs := [.slice a0 x.f0.length k0, .int .i64 x.f1, .int .i64 x.f2, .int .i64 x.f3, .int .i64 x.f4, .int .i64 x.f5]) rfl rfl hu40 rfl info40s (blk_cells b2)) ?_
          refine E.GL.st rfl rfl rfl (E.ST.call rfl ent46 (E.evc rfl E.evn) ((roll_o x a0 k0 _ hf1 hf2 hf3).mono ?_))
          rintro e w48 ⟨rfl, l48⟩
          refine ⟨_, rfl, ?_⟩
          replace b2 := blk_below b2 l48
          replace b16 := blk_below b16 l48
          replace L := below_step L l48
          by_cases h49 : ¬ inR (rl x) 0 20
          · refine E.GL.st rfl rfl rfl (E.ST.callV (cap := []) rfl ent80 rfl (E.evc rfl E.evn) ((clo80 (rl x) true (iff_of_true rfl h49) _).mono ?_))
            rintro e w49 ⟨rfl, l49⟩
            refine ⟨_, rfl, ?_⟩
            replace b2 := blk_below b2 l49
            replace b16 := blk_below b16 l49
            replace L := below_step L l49
            refine E.GL.run rfl rfl rfl (E.Runs.not rfl rfl) ?_
            refine E.GL.run rfl rfl rfl (E.Runs.pick_t rfl rfl rfl) ?_
            refine E.GL.run rfl rfl rfl (E.Runs.assign rfl rfl) ?_
            refine E.GL.done ?_
            refine E.QG.code ?_
            refine E.CG.ret ?_
            exact E.QG.result rfl rfl ⟨by rw [bool_no hr (fun k => h49 k.2.2.2.2.2.2.2)] <;> rfl, L⟩
          · refine E.GL.st rfl rfl rfl (E.ST.callV (cap := []) rfl ent80 rfl (E.evc rfl E.evn) ((clo80 (rl x) false (iff_of_false Bool.false_ne_true h49) _).mono ?_))
            rintro e w49 ⟨rfl, l49⟩
            refine ⟨_, rfl, ?_⟩
            replace b2 := blk_below b2 l49
            replace b16 := blk_below b16 l49
            replace L := below_step L l49
            refine E.GL.run rfl rfl rfl (E.Runs.not rfl rfl) ?_
            refine E.GL.run rfl rfl rfl (E.Runs.pick_t rfl rfl rfl) ?_
            refine E.GL.run rfl rfl rfl (E.Runs.assign rfl rfl) ?_
            refine E.GL.done ?_
            refine E.QG.code ?_
            refine E.CG.ret ?_
            exact E.QG.result rfl rfl ⟨by rw [hr.mpr ⟨by omega, Decidable.not_not.mp h35, hf1, hf2, hf4, hf5, hf3, Decidable.not_not.mp h49⟩] <;> rfl, L⟩
    · refine E.GL.run rfl rfl rfl (E.Runs.move rfl rfl) ?_
      refine E.GL.skip rfl rfl rfl ?_
      refine E.GL.skip rfl rfl rfl ?_
      refine E.GL.skip rfl rfl rfl ?_
      refine E.GL.skip rfl rfl rfl ?_
      refine E.GL.skip rfl rfl rfl ?_
      refine E.GL.run rfl rfl rfl (E.Runs.pick_f rfl rfl rfl) ?_
      refine E.GL.run rfl rfl rfl (E.Runs.move rfl rfl) ?_
      refine E.GL.skip rfl rfl rfl ?_
      refine E.GL.skip rfl rfl rfl ?_
      refine E.GL.skip rfl rfl rfl ?_
      refine E.GL.skip rfl rfl rfl ?_
      refine E.GL.skip rfl rfl rfl ?_
      refine E.GL.run rfl rfl rfl (E.Runs.pick_f rfl rfl rfl) ?_
      refine E.GL.run rfl rfl rfl (E.Runs.move rfl rfl) ?_
      refine E.GL.skip rfl rfl rfl ?_
      refine E.GL.skip rfl rfl rfl ?_
      refine E.GL.skip rfl rfl rfl ?_
      refine E.GL.skip rfl rfl rfl ?_
      refine E.GL.skip rfl rfl rfl ?_
      refine E.GL.run rfl rfl rfl (E.Runs.pick_f rfl rfl rfl) ?_
      refine E.GL.run rfl rfl rfl (E.Runs.assign rfl rfl) ?_
      refine E.GL.done ?_
      refine E.QG.code ?_
      refine E.CG.ret ?_
      exact E.QG.result rfl rfl ⟨by rw [bool_no hr (fun k => h30 (by rw [k.1]))] <;> rfl, L⟩

set_option maxRecDepth 100000 in
set_option maxHeartbeats 8000000 in

theorem clo69 (x : S40) (a0 : Option Addr) (k0 : Nat) (w : World) (hx0 : Kd.C kI w a0 x.f0.length x.f0) (hxn : x.f0.length ≤ 1000000) (n : Nat) (g : Nat) (bg : w.heap[g]? = some (.cells #[.int .i64 n] 3 (0, 0))) (r : Bool) (hr : r = true ↔ ¬ COk n x) :
    Calls Try.prog 69 #[.agg #[.slice a0 x.f0.length k0, .int .i64 x.f1, .int .i64 x.f2, .int .i64 x.f3, .int .i64 x.f4, .int .i64 x.f5], .pointer (some ⟨g, 0, none⟩)] w fun e w' => e = .returned (.bool r) ∧ Below w.heap.size w w' := by
  have hu3 := Try.underlying3
  have hu40 := Try.underlying40
  obtain ⟨z3, o3⟩ := info_some info3s (by decide)
  refine E.enter (N := 8) Try.func69 rfl Try.ntmps69 (args := [.agg #[.slice a0 x.f0.length k0, .int .i64 x.f1, .int .i64 x.f2, .int .i64 x.f3, .int .i64 x.f4, .int .i64 x.f5], .pointer (some ⟨g, 0, none⟩)]) (by simp) ?_
  have L := Below.refl w.heap.size w
  refine E.CG.seq ?_
  refine E.CG.list ?_
  refine E.GL.st rfl rfl rfl (E.ST.box rfl rfl fun g2 w2 e2 b2 l2 => ?_)
  have h2_L : w.heap.size ≤ g2 := by rw [e2]; exact L.size
  have n2_bg : g ≠ g2 := by have := blk_lt bg; omega
  replace bg := blk_below bg l2
  replace L := below_step L l2
  refine E.GL.run rfl rfl rfl (E.Runs.assign rfl rfl) ?_
  refine E.GL.done ?_
  refine E.QG.code ?_
  refine E.CG.seq ?_
  refine E.CG.list ?_
  refine E.GL.run rfl rfl rfl (E.Runs.loads (cs := [.slice a0 x.f0.length k0, .int .i64 x.f1, .int .i64 x.f2, .int .i64 x.f3, .int .i64 x.f4, .int .i64 x.f5]) rfl rfl hu40 rfl info40s (blk_cells b2)) ?_
  refine E.GL.run rfl rfl rfl (E.Runs.load rfl rfl hu3 (by first | assumption | exact E.blkc (by assumption) rfl | exact pw_cell_below L (by assumption))) ?_
  by_cases h6 : COk n x
  · refine E.GL.st rfl rfl rfl (E.ST.call rfl ent70 (E.evc rfl (E.evc rfl E.evn)) ((isCounter_calls x a0 k0 _ (Kd.C_below hx0 L) hxn n true (iff_of_true rfl h6)).mono ?_))
    rintro e w6 ⟨rfl, l6⟩
    refine ⟨_, rfl, ?_⟩
    replace bg := blk_below bg l6
    replace b2 := blk_below b2 l6
    replace L := below_step L l6
    refine E.GL.run rfl rfl rfl (E.Runs.not rfl rfl) ?_
    refine E.GL.run rfl rfl rfl (E.Runs.assign rfl rfl) ?_
    refine E.GL.done ?_
    refine E.QG.code ?_
    refine E.CG.ret ?_
    exact E.QG.result rfl rfl ⟨by rw [bool_no hr (fun k => k h6)]; rfl, L⟩
  · refine E.GL.st rfl rfl rfl (E.ST.call rfl ent70 (E.evc rfl (E.evc rfl E.evn)) ((isCounter_calls x a0 k0 _ (Kd.C_below hx0 L) hxn n false (iff_of_false Bool.false_ne_true h6)).mono ?_))
    rintro e w6 ⟨rfl, l6⟩
    refine ⟨_, rfl, ?_⟩
    replace bg := blk_below bg l6
    replace b2 := blk_below b2 l6
    replace L := below_step L l6
    refine E.GL.run rfl rfl rfl (E.Runs.not rfl rfl) ?_
    refine E.GL.run rfl rfl rfl (E.Runs.assign rfl rfl) ?_
    refine E.GL.done ?_
    refine E.QG.code ?_
    refine E.CG.ret ?_
    exact E.QG.result rfl rfl ⟨by rw [hr.mpr h6]; rfl, L⟩

set_option maxRecDepth 100000 in
set_option maxHeartbeats 8000000 in

theorem index79 (l : List S40) (A : Option Addr) (c n g : Nat) (w : World) (hr : Kd.C k40 w A l.length l) (hn : l.length ≤ 1000000) (hz : ∀ x ∈ l, x.f0.length ≤ 1000000) (bg : w.heap[g]? = some (.cells #[.int .i64 n] 3 (0, 0))) :
    Calls Try.prog 79 #[.slice A l.length c, .func (.func 69) #[] #[.pointer (some ⟨g, 0, none⟩)]] w fun e w' => ∃ r : Int, e = .returned (.int .i64 r) ∧ (0 ≤ r ↔ ¬ ∀ x ∈ l, COk n x) ∧ Below w.heap.size w w' := by
  have hu3 := Try.underlying3
  have hu23 := Try.underlying23
  have hu40 := Try.underlying40
  obtain ⟨z40, o40⟩ := info_some info40s (by decide)
  refine E.enter (N := 19) Try.func79 rfl Try.ntmps79 (args := [.slice A l.length c, .func (.func 69) #[] #[.pointer (some ⟨g, 0, none⟩)]]) (by simp) ?_
  have L := Below.refl w.heap.size w
  refine E.CG.seq ?_
  refine E.CG.list ?_
  refine E.GL.run rfl rfl rfl (E.Runs.assign rfl rfl) ?_
  refine E.GL.done ?_
  refine E.QG.code ?_
  refine E.CG.seq ?_
  refine E.CG.seq ?_
  refine E.CG.list ?_
  refine E.GL.run rfl rfl rfl (E.Runs.move rfl rfl) ?_
  refine E.GL.run rfl rfl rfl (E.Runs.len rfl rfl hu23) ?_
  refine E.GL.run rfl rfl rfl (E.Runs.move rfl rfl) ?_
  refine E.GL.done ?_
  refine E.QG.code ?_
  refine E.CG.block ?_
  have s2_L := L
  refine E.CG.loop (fun (i : Nat) => [(0, .slice A l.length c), (1, .func (.func 69) #[] #[.pointer (some ⟨g, 0, none⟩)]), (7, .int .i64 l.length), (8, .int .i64 i)]) (fun i w' => i ≤ l.length ∧ Below w.heap.size w w' ∧ ∀ k, k < i → ∀ x, l[k]? = some x → COk n x) (fun i => l.length - i) 0 (E.subc rfl (E.subc rfl (E.subc rfl (E.subc rfl E.subn)))) ⟨Nat.zero_le _, L, fun k hk => by omega⟩ ?_
  rintro i w2 ⟨hi, L, hok⟩
  refine E.CG.seq ?_
  refine E.CG.list ?_
  refine E.GL.cmp rfl rfl rfl (fun _ h => (E.Runs.lss rfl rfl rfl h)) (fun h9 => ?_) (fun h9 => ?_)
  · obtain ⟨x, hx⟩ := get_ex (show i < l.length by omega)
    obtain ⟨ad, a0, k0, eA, _, hx0, X⟩ := till_at hr hx
    refine E.GL.done ?_
    refine E.QG.code ?_
    refine E.CG.seq ?_
    refine E.CG.cond_t rfl ?_
    refine E.CG.skip ?_
    refine E.QG.code ?_
    refine E.CG.seq ?_
    refine E.CG.block ?_
    refine E.CG.seq ?_
    refine E.CG.list ?_
    refine E.GL.run rfl rfl rfl (E.Runs.move rfl rfl) ?_
    refine E.GL.run rfl rfl rfl (E.Runs.assign rfl rfl) ?_
    refine E.GL.done ?_
    refine E.QG.code ?_
    refine E.CG.seq ?_
    refine E.CG.list ?_
    refine E.GL.run rfl rfl rfl (E.Runs.move rfl rfl) ?_
    refine E.GL.run rfl rfl rfl (E.Runs.move rfl rfl) ?_
    refine E.GL.run rfl rfl rfl (E.Runs.move rfl rfl) ?_
    refine E.GL.run rfl rfl rfl (E.Runs.indexAddrA (i := i) rfl rfl rfl hu23 z40 o40 (by omega) eA rfl) ?_
    refine E.GL.run rfl rfl rfl (E.Runs.loads (cs := [.slice a0 x.f0.length k0, .int .i64 x.f1, .int .i64 x.f2, .int .i64 x.f3, .int .i64 x.f4, .int .i64 x.f5]) rfl rfl hu40 rfl info40s (fun j v hv => pw_cell_below L (X j v hv))) ?_
    by_cases h16 : ¬ COk n x
    · refine E.GL.st rfl rfl rfl (E.ST.callV (cap := [.pointer (some ⟨g, 0, none⟩)]) rfl ent69 rfl (E.evc rfl E.evn) ((clo69 x a0 k0 _ (Kd.C_below hx0 L) (hz x (List.mem_of_getElem? hx)) n g (blk_below bg L) true (iff_of_true rfl h16)).mono ?_))
      rintro e w16 ⟨rfl, l16⟩
      refine ⟨_, rfl, ?_⟩
      replace L := below_step L l16
      refine E.GL.done ?_
      refine E.QG.code ?_
      refine E.CG.cond_t rfl ?_
      refine E.CG.seq ?_
      refine E.CG.list ?_
      refine E.GL.run rfl rfl rfl (E.Runs.move rfl rfl) ?_
      refine E.GL.run rfl rfl rfl (E.Runs.assign rfl rfl) ?_
      refine E.GL.done ?_
      refine E.QG.code ?_
      refine E.CG.ret ?_
      refine E.QG.block_ret ?_
      refine E.QG.pass_ret ?_
      refine E.QG.pass_ret ?_
      refine E.QG.block_ret ?_
      refine E.QG.pass_ret ?_
      exact E.QG.result rfl rfl ⟨_, rfl, iff_of_true (by omega) (fun k => h16 (k x (List.mem_of_getElem? hx))), L⟩
    · refine E.GL.st rfl rfl rfl (E.ST.callV (cap := [.pointer (some ⟨g, 0, none⟩)]) rfl ent69 rfl (E.evc rfl E.evn) ((clo69 x a0 k0 _ (Kd.C_below hx0 L) (hz x (List.mem_of_getElem? hx)) n g (blk_below bg L) false (iff_of_false Bool.false_ne_true h16)).mono ?_))
      rintro e w16 ⟨rfl, l16⟩
      refine ⟨_, rfl, ?_⟩
      replace L := below_step L l16
      refine E.GL.done ?_
      refine E.QG.code ?_
      refine E.CG.cond_f rfl ?_
      refine E.CG.skip ?_
      refine E.QG.block_normal ?_
      refine E.QG.code ?_
      refine E.CG.list ?_
      refine E.GL.run rfl rfl rfl (E.Runs.add rfl rfl rfl (IntWalk.i64_in _ (by omega))) ?_
      refine E.GL.run rfl rfl rfl (E.Runs.move rfl rfl) ?_
      refine E.GL.done ?_
      exact E.QG.round (i + 1) (E.subc rfl (E.subc rfl (E.subc rfl (E.subc rfl E.subn)))) ⟨by omega, L, all_more hok hx (Decidable.not_not.mp h16)⟩ (by omega)
  · refine E.GL.done ?_
    refine E.QG.code ?_
    refine E.CG.seq ?_
    refine E.CG.cond_f rfl ?_
    refine E.CG.exit ?_
    refine E.QG.pass_exit ?_
    refine E.QG.pass_exit ?_
    refine E.QG.block_here ?_
    refine E.QG.code ?_
    refine E.CG.seq ?_
    refine E.CG.list ?_
    refine E.GL.run rfl rfl rfl (E.Runs.assign rfl rfl) ?_
    refine E.GL.done ?_
    refine E.QG.code ?_
    refine E.CG.ret ?_
    exact E.QG.result rfl rfl ⟨_, rfl, iff_of_false (by omega) (fun k => k (all_done hok (by omega))), L⟩

set_option maxRecDepth 100000 in
set_option maxHeartbeats 8000000 in

theorem contains68 (l : List S40) (A : Option Addr) (c n g : Nat) (w : World) (hr : Kd.C k40 w A l.length l) (hn : l.length ≤ 1000000) (hz : ∀ x ∈ l, x.f0.length ≤ 1000000) (bg : w.heap[g]? = some (.cells #[.int .i64 n] 3 (0, 0))) (r : Bool) (hb : r = true ↔ ¬ ∀ x ∈ l, COk n x) :
    Calls Try.prog 68 #[.slice A l.length c, .func (.func 69) #[] #[.pointer (some ⟨g, 0, none⟩)]] w fun e w' => e = .returned (.bool r) ∧ Below w.heap.size w w' := by
  have hu3 := Try.underlying3
  have hu23 := Try.underlying23
  refine E.enter (N := 9) Try.func68 rfl Try.ntmps68 (args := [.slice A l.length c, .func (.func 69) #[] #[.pointer (some ⟨g, 0, none⟩)]]) (by simp) ?_
  have L := Below.refl w.heap.size w
  refine E.CG.seq ?_
  refine E.CG.list ?_
  refine E.GL.run rfl rfl rfl (E.Runs.assign rfl rfl) ?_
  refine E.GL.done ?_
  refine E.QG.code ?_
  refine E.CG.seq ?_
  refine E.CG.list ?_
  refine E.GL.run rfl rfl rfl (E.Runs.move rfl rfl) ?_
  refine E.GL.run rfl rfl rfl (E.Runs.move rfl rfl) ?_
  refine E.GL.st rfl rfl rfl (E.ST.call rfl ent79 (E.evc rfl (E.evc rfl E.evn)) ((index79 l A c n g _ (Kd.C_below hr L) hn hz (blk_below bg L)).mono ?_))
  rintro e w7 ⟨q, rfl, hq, l7⟩
  refine ⟨_, rfl, ?_⟩
  replace L := below_step L l7
  refine E.GL.cmp rfl rfl rfl (fun _ h => (E.Runs.geq rfl rfl rfl h)) (fun h8 => ?_) (fun h8 => ?_)
  · refine E.GL.run rfl rfl rfl (E.Runs.assign rfl rfl) ?_
    refine E.GL.done ?_
    refine E.QG.code ?_
    refine E.CG.ret ?_
    exact E.QG.result rfl rfl ⟨by rw [hb.mpr (hq.mp h8)], L⟩
  · refine E.GL.run rfl rfl rfl (E.Runs.assign rfl rfl) ?_
    refine E.GL.done ?_
    refine E.QG.code ?_
    refine E.CG.ret ?_
    exact E.QG.result rfl rfl ⟨by rw [bool_no hb (fun k => h8 (hq.mpr k))], L⟩

set_option maxRecDepth 100000 in
set_option maxHeartbeats 8000000 in

theorem check33 (V : Ev) (m : Ea) (w : World) (hV : EvM w V m) (hs : Sz V) :
    Calls Try.prog 33 #[hv V m] w fun e w' => e = .returned (.int .i64 (chkV V)) ∧ Below w.heap.size w w' := by
  have hsp := hs.p
  have hsc := hs.c
  have hu3 := Try.underlying3
  have hu22 := Try.underlying22
  have hu23 := Try.underlying23
  have hu25 := Try.underlying25
  obtain ⟨z3, o3⟩ := info_some info3s (by decide)
  obtain ⟨z22, o22⟩ := info_some info22s (by decide)
  obtain ⟨z23, o23⟩ := info_some info23s (by decide)
  obtain ⟨z25, o25⟩ := info_some info25s (by decide)
  refine E.enter (N := 67) Try.func33 rfl Try.ntmps33 (args := [hv V m]) (by simp) ?_
  have L := Below.refl w.heap.size w
  refine E.CG.seq ?_
  refine E.CG.list ?_
  refine E.GL.st rfl rfl rfl (E.ST.box rfl rfl fun g1 w1 e1 b1 l1 => ?_)
  have h1_L : w.heap.size ≤ g1 := by rw [e1]; exact L.size
  replace L := below_step L l1
  refine E.GL.run rfl rfl rfl (E.Runs.assign rfl rfl) ?_
  refine E.GL.done ?_
  refine E.QG.code ?_
  refine E.CG.seq ?_
  refine E.CG.list ?_
  refine E.GL.run rfl rfl rfl (E.Runs.fieldAddr rfl rfl hu25 rfl (by assumption) rfl) ?_
  refine E.GL.run rfl rfl rfl (E.Runs.load1 rfl rfl hu22 rfl (by first | assumption | exact E.blkc (by assumption) rfl | exact pw_cell_below L (by assumption))) ?_
  refine E.GL.run rfl rfl rfl (E.Runs.len rfl rfl hu22) ?_
  refine E.GL.st rfl rfl rfl (E.ST.allocZ rfl info3z rfl fun g3 w3 e3 b3 l3 => ?_)
  have h3_L : w.heap.size ≤ g3 := by rw [e3]; exact L.size
  have n3_b1 : g1 ≠ g3 := by have := blk_lt b1; omega
  replace b1 := blk_below b1 l3
  replace L := below_step L l3
  refine E.GL.sn rfl rfl (E.ST.store rfl (by assumption) (by assumption) rfl rfl b3 rfl rfl fun wS1_4 c3 lS1_4 => ?_)
  replace b1 := blk_grown b1 lS1_4 (E.nes (by first | assumption | exact Ne.symm (by assumption)))
  replace L := E.below_own L h3_L lS1_4
  replace b3 := c3
  clear c3
  refine E.GL.done ?_
  refine E.QG.code ?_
  refine E.CG.seq ?_
  refine E.CG.seq ?_
  refine E.CG.list ?_
  refine E.GL.run rfl rfl rfl (E.Runs.load rfl rfl hu3 (by first | assumption | exact E.blkc (by assumption) rfl | exact pw_cell_below L (by assumption))) ?_
  by_cases h10 : inR V.ps.length 1 3
  · refine E.GL.st rfl rfl rfl (E.ST.call rfl ent67 (E.evc rfl (E.evc rfl (E.evc rfl E.evn))) ((within_o V.ps.length 1 3 true (iff_of_true rfl h10) _).mono ?_))
    rintro e w10 ⟨rfl, l10⟩
    refine ⟨_, rfl, ?_⟩
    replace b1 := blk_below b1 l10
    replace b3 := blk_below b3 l10
    replace L := below_step L l10
    refine E.GL.run rfl rfl rfl (E.Runs.not rfl rfl) ?_
    refine E.GL.run rfl rfl rfl (E.Runs.move rfl rfl) ?_
    refine E.GL.run rfl rfl rfl (E.Runs.fieldAddr rfl rfl hu25 rfl (by assumption) rfl) ?_
    refine E.GL.run rfl rfl rfl (E.Runs.load1 rfl rfl hu22 rfl (by first | assumption | exact E.blkc (by assumption) rfl | exact pw_cell_below L (by assumption))) ?_
    refine E.GL.run rfl rfl rfl (E.Runs.len rfl rfl hu22) ?_
    refine E.GL.run rfl rfl rfl (E.Runs.load rfl rfl hu3 (by first | assumption | exact E.blkc (by assumption) rfl | exact pw_cell_below L (by assumption))) ?_
    refine E.GL.cmpn rfl rfl rfl (fun _ h => (E.Runs.neq rfl rfl rfl h)) (fun h17 => ?_) (fun h17 => ?_)
    · refine E.GL.run rfl rfl rfl (E.Runs.pick_f rfl rfl rfl) ?_
      refine E.GL.run rfl rfl rfl (E.Runs.move rfl rfl) ?_
      refine E.GL.skip rfl rfl rfl ?_
      refine E.GL.skip rfl rfl rfl ?_
      refine E.GL.skip rfl rfl rfl ?_
      refine E.GL.skip rfl rfl rfl ?_
      refine E.GL.skip rfl rfl rfl ?_
      refine E.GL.run rfl rfl rfl (E.Runs.pick_t rfl rfl rfl) ?_
      refine E.GL.run rfl rfl rfl (E.Runs.move rfl rfl) ?_
      refine E.GL.skip rfl rfl rfl ?_
      refine E.GL.skip rfl rfl rfl ?_
      refine E.GL.skip rfl rfl rfl ?_
      refine E.GL.skip rfl rfl rfl ?_
      refine E.GL.skip rfl rfl rfl ?_
      refine E.GL.run rfl rfl rfl (E.Runs.pick_t rfl rfl rfl) ?_
      refine E.GL.done ?_
      refine E.QG.code ?_
      refine E.CG.cond_t rfl ?_
      refine E.CG.seq ?_
      refine E.CG.list ?_
      refine E.GL.run rfl rfl rfl (E.Runs.assign rfl rfl) ?_
      refine E.GL.done ?_
      refine E.QG.code ?_
      refine E.CG.ret ?_
      refine E.QG.pass_ret ?_
      exact E.QG.result rfl rfl ⟨by rw [chkV_no (fun k => h17 (by rw [k.nq]))], L⟩
    · refine E.GL.run rfl rfl rfl (E.Runs.pick_f rfl rfl rfl) ?_
      refine E.GL.run rfl rfl rfl (E.Runs.move rfl rfl) ?_
      refine E.GL.run rfl rfl rfl (E.Runs.fieldAddr rfl rfl hu25 rfl (by assumption) rfl) ?_
      refine E.GL.run rfl rfl rfl (E.Runs.load1 rfl rfl hu22 rfl (by first | assumption | exact E.blkc (by assumption) rfl | exact pw_cell_below L (by assumption))) ?_
      refine E.GL.run rfl rfl rfl (E.Runs.len rfl rfl hu22) ?_
      refine E.GL.run rfl rfl rfl (E.Runs.load rfl rfl hu3 (by first | assumption | exact E.blkc (by assumption) rfl | exact pw_cell_below L (by assumption))) ?_
      refine E.GL.cmpn rfl rfl rfl (fun _ h => (E.Runs.neq rfl rfl rfl h)) (fun h24 => ?_) (fun h24 => ?_)
      · refine E.GL.run rfl rfl rfl (E.Runs.pick_f rfl rfl rfl) ?_
        refine E.GL.run rfl rfl rfl (E.Runs.move rfl rfl) ?_
        refine E.GL.skip rfl rfl rfl ?_
        refine E.GL.skip rfl rfl rfl ?_
        refine E.GL.skip rfl rfl rfl ?_
        refine E.GL.skip rfl rfl rfl ?_
        refine E.GL.skip rfl rfl rfl ?_
        refine E.GL.run rfl rfl rfl (E.Runs.pick_t rfl rfl rfl) ?_
        refine E.GL.done ?_
        refine E.QG.code ?_
        refine E.CG.cond_t rfl ?_
        refine E.CG.seq ?_
        refine E.CG.list ?_
        refine E.GL.run rfl rfl rfl (E.Runs.assign rfl rfl) ?_
        refine E.GL.done ?_
        refine E.QG.code ?_
        refine E.CG.ret ?_
        refine E.QG.pass_ret ?_
        exact E.QG.result rfl rfl ⟨by rw [chkV_no (fun k => h24 (by rw [k.nt]))], L⟩
      · refine E.GL.run rfl rfl rfl (E.Runs.pick_f rfl rfl rfl) ?_
        refine E.GL.run rfl rfl rfl (E.Runs.move rfl rfl) ?_
        refine E.GL.run rfl rfl rfl (E.Runs.fieldAddr rfl rfl hu25 rfl (by assumption) rfl) ?_
        refine E.GL.run rfl rfl rfl (E.Runs.load1 rfl rfl hu23 rfl (by first | assumption | exact E.blkc (by assumption) rfl | exact pw_cell_below L (by assumption))) ?_
        refine E.GL.run rfl rfl rfl (E.Runs.len rfl rfl hu23) ?_
        by_cases h30 : inR V.cs.length 1 4
        · refine E.GL.st rfl rfl rfl (E.ST.call rfl ent67 (E.evc rfl (E.evc rfl (E.evc rfl E.evn))) ((within_o V.cs.length 1 4 true (iff_of_true rfl h30) _).mono ?_))
          rintro e w30 ⟨rfl, l30⟩
          refine ⟨_, rfl, ?_⟩
          replace b1 := blk_below b1 l30
          replace b3 := blk_below b3 l30
          replace L := below_step L l30
          refine E.GL.run rfl rfl rfl (E.Runs.not rfl rfl) ?_
          refine E.GL.run rfl rfl rfl (E.Runs.pick_f rfl rfl rfl) ?_
          refine E.GL.done ?_
          refine E.QG.code ?_
          refine E.CG.cond_f rfl ?_
          refine E.CG.skip ?_
          refine E.QG.code ?_
          refine E.CG.seq ?_
          refine E.CG.seq ?_
          refine E.CG.list ?_
          refine E.GL.run rfl rfl rfl (E.Runs.fieldAddr rfl rfl hu25 rfl (by assumption) rfl) ?_
          refine E.GL.run rfl rfl rfl (E.Runs.load1 rfl rfl hu22 rfl (by first | assumption | exact E.blkc (by assumption) rfl | exact pw_cell_below L (by assumption))) ?_
          refine E.GL.run rfl rfl rfl (E.Runs.len rfl rfl hu22) ?_
          refine E.GL.run rfl rfl rfl (E.Runs.move rfl rfl) ?_
          refine E.GL.done ?_
          refine E.QG.code ?_
          refine E.CG.block ?_
          have s5_b1 := b1
          have s5_b3 := b3
          have s5_L := L
          refine E.CG.loop (fun (i : Nat) => [(1, .pointer (some ⟨g1, 0, none⟩)), (3, .pointer (some ⟨g3, 0, none⟩)), (34, .slice m.A V.ps.length m.a), (35, .int .i64 V.ps.length), (36, .int .i64 i)]) (fun i w' => i ≤ V.ps.length ∧ (∀ k, k < i → ∀ x, V.ps[k]? = some x → 1 ≤ x ∧ x ≤ 50) ∧ (∀ k, k < i → ∀ x, V.qs[k]? = some x → 0 ≤ x ∧ x ≤ 80) ∧ (∀ k, k < i → ∀ x, V.ts[k]? = some x → 0 ≤ x ∧ x ≤ 80) ∧ w'.heap[g1]? = some (.cells #[.slice m.A V.ps.length m.a, .slice m.B V.qs.length m.b, .slice m.C V.ts.length m.c, .slice m.D V.cs.length m.d] 25 (0, 0)) ∧ w'.heap[g3]? = some (.cells #[.int .i64 V.ps.length] 3 (0, 0)) ∧ Below w.heap.size w w') (fun i => V.ps.length - i) 0 (E.subc rfl (E.subc rfl (E.subc rfl (E.subc rfl (E.subc rfl E.subn))))) ⟨Nat.zero_le _, fun k hk => by omega, fun k hk => by omega, fun k hk => by omega, b1, b3, L⟩ ?_
          rintro i w5 ⟨hi, hk1, hk2, hk3, b1, b3, L⟩
          refine E.CG.seq ?_
          refine E.CG.list ?_
          refine E.GL.cmp rfl rfl rfl (fun _ h => (E.Runs.lss rfl rfl rfl h)) (fun h37 => ?_) (fun h37 => ?_)
          · obtain ⟨x, hx⟩ := get_ex (show i < V.ps.length by omega)
            obtain ⟨ad, eA, X⟩ := int_at hV.ps hx
            obtain ⟨y, hy⟩ := get_ex (show i < V.qs.length by omega)
            obtain ⟨ae, eB, Y⟩ := int_at hV.qs hy
            obtain ⟨z, hz⟩ := get_ex (show i < V.ts.length by omega)
            obtain ⟨af, eC, Z⟩ := int_at hV.ts hz
            refine E.GL.done ?_
            refine E.QG.code ?_
            refine E.CG.seq ?_
            refine E.CG.cond_t rfl ?_
            refine E.CG.skip ?_
            refine E.QG.code ?_
            refine E.CG.seq ?_
            refine E.CG.block ?_
            refine E.CG.seq ?_
            refine E.CG.list ?_
            refine E.GL.run rfl rfl rfl (E.Runs.move rfl rfl) ?_
            refine E.GL.run rfl rfl rfl (E.Runs.indexAddrA (i := i) rfl rfl rfl hu22 z3 o3 (by omega) eA rfl) ?_
            refine E.GL.run rfl rfl rfl (E.Runs.load rfl rfl hu3 (pw_cell_below L X)) ?_
            refine E.GL.run rfl rfl rfl (E.Runs.assign rfl rfl) ?_
            refine E.GL.run rfl rfl rfl (E.Runs.assign rfl rfl) ?_
            refine E.GL.done ?_
            refine E.QG.code ?_
            refine E.CG.seq ?_
            refine E.CG.list ?_
            refine E.GL.run rfl rfl rfl (E.Runs.move rfl rfl) ?_
            by_cases h42 : inR x 1 50
            · refine E.GL.st rfl rfl rfl (E.ST.call rfl ent67 (E.evc rfl (E.evc rfl (E.evc rfl E.evn))) ((within_o x 1 50 true (iff_of_true rfl h42) _).mono ?_))
              rintro e w42 ⟨rfl, l42⟩
              refine ⟨_, rfl, ?_⟩
              replace b1 := blk_below b1 l42
              replace b3 := blk_below b3 l42
              replace L := below_step L l42
              refine E.GL.run rfl rfl rfl (E.Runs.not rfl rfl) ?_
              refine E.GL.run rfl rfl rfl (E.Runs.move rfl rfl) ?_
              refine E.GL.run rfl rfl rfl (E.Runs.fieldAddr rfl rfl hu25 rfl (by assumption) rfl) ?_
              refine E.GL.run rfl rfl rfl (E.Runs.load1 rfl rfl hu22 rfl (by first | assumption | exact E.blkc (by assumption) rfl | exact pw_cell_below L (by assumption))) ?_
              refine E.GL.run rfl rfl rfl (E.Runs.move rfl rfl) ?_
              refine E.GL.run rfl rfl rfl (E.Runs.indexAddrA (i := i) rfl rfl rfl hu22 z3 o3 (by omega) eB rfl) ?_
              refine E.GL.run rfl rfl rfl (E.Runs.load rfl rfl hu3 (pw_cell_below L Y)) ?_
              by_cases h50 : inR y 0 80
              · refine E.GL.st rfl rfl rfl (E.ST.call rfl ent67 (E.evc rfl (E.evc rfl (E.evc rfl E.evn))) ((within_o y 0 80 true (iff_of_true rfl h50) _).mono ?_))
                rintro e w50 ⟨rfl, l50⟩
                refine ⟨_, rfl, ?_⟩
                replace b1 := blk_below b1 l50
                replace b3 := blk_below b3 l50
                replace L := below_step L l50
                refine E.GL.run rfl rfl rfl (E.Runs.not rfl rfl) ?_
                refine E.GL.run rfl rfl rfl (E.Runs.pick_f rfl rfl rfl) ?_
                refine E.GL.run rfl rfl rfl (E.Runs.move rfl rfl) ?_
                refine E.GL.run rfl rfl rfl (E.Runs.fieldAddr rfl rfl hu25 rfl (by assumption) rfl) ?_
                refine E.GL.run rfl rfl rfl (E.Runs.load1 rfl rfl hu22 rfl (by first | assumption | exact E.blkc (by assumption) rfl | exact pw_cell_below L (by assumption))) ?_
                refine E.GL.run rfl rfl rfl (E.Runs.move rfl rfl) ?_
                refine E.GL.run rfl rfl rfl (E.Runs.indexAddrA (i := i) rfl rfl rfl hu22 z3 o3 (by omega) eC rfl) ?_
                refine E.GL.run rfl rfl rfl (E.Runs.load rfl rfl hu3 (pw_cell_below L Z)) ?_
                by_cases h59 : inR z 0 80
                · refine E.GL.st rfl rfl rfl (E.ST.call rfl ent67 (E.evc rfl (E.evc rfl (E.evc rfl E.evn))) ((within_o z 0 80 true (iff_of_true rfl h59) _).mono ?_))
                  rintro e w59 ⟨rfl, l59⟩
                  refine ⟨_, rfl, ?_⟩
                  replace b1 := blk_below b1 l59
                  replace b3 := blk_below b3 l59
                  replace L := below_step L l59
                  refine E.GL.run rfl rfl rfl (E.Runs.not rfl rfl) ?_
                  refine E.GL.run rfl rfl rfl (E.Runs.pick_f rfl rfl rfl) ?_
                  refine E.GL.done ?_
                  refine E.QG.code ?_
                  refine E.CG.cond_f rfl ?_
                  refine E.CG.skip ?_
                  refine E.QG.block_normal ?_
                  refine E.QG.code ?_
                  refine E.CG.list ?_
                  refine E.GL.run rfl rfl rfl (E.Runs.add rfl rfl rfl (IntWalk.i64_in _ (by omega))) ?_
                  refine E.GL.run rfl rfl rfl (E.Runs.move rfl rfl) ?_
                  refine E.GL.done ?_
                  exact E.QG.round (i + 1) (E.subc rfl (E.subc rfl (E.subc rfl (E.subc rfl (E.subc rfl E.subn))))) ⟨by omega, all_more hk1 hx h42, all_more hk2 hy h50, all_more hk3 hz h59, b1, b3, L⟩ (by omega)
                · refine E.GL.st rfl rfl rfl (E.ST.call rfl ent67 (E.evc rfl (E.evc rfl (E.evc rfl E.evn))) ((within_o z 0 80 false (iff_of_false Bool.false_ne_true h59) _).mono ?_))
                  rintro e w59 ⟨rfl, l59⟩
                  refine ⟨_, rfl, ?_⟩
                  replace b1 := blk_below b1 l59
                  replace b3 := blk_below b3 l59
                  replace L := below_step L l59
                  refine E.GL.run rfl rfl rfl (E.Runs.not rfl rfl) ?_
                  refine E.GL.run rfl rfl rfl (E.Runs.pick_f rfl rfl rfl) ?_
                  refine E.GL.done ?_
                  refine E.QG.code ?_
                  refine E.CG.cond_t rfl ?_
                  refine E.CG.seq ?_
                  refine E.CG.list ?_
                  refine E.GL.run rfl rfl rfl (E.Runs.assign rfl rfl) ?_
                  refine E.GL.done ?_
                  refine E.QG.code ?_
                  refine E.CG.ret ?_
                  refine E.QG.block_ret ?_
                  refine E.QG.pass_ret ?_
                  refine E.QG.pass_ret ?_
                  refine E.QG.block_ret ?_
                  refine E.QG.pass_ret ?_
                  exact E.QG.result rfl rfl ⟨by rw [chkV_no (fun k => h59 (k.t z (List.mem_of_getElem? hz)))], L⟩
              · refine E.GL.st rfl rfl rfl (E.ST.call rfl ent67 (E.evc rfl (E.evc rfl (E.evc rfl E.evn))) ((within_o y 0 80 false (iff_of_false Bool.false_ne_true h50) _).mono ?_))
                rintro e w50 ⟨rfl, l50⟩
                refine ⟨_, rfl, ?_⟩
                replace b1 := blk_below b1 l50
                replace b3 := blk_below b3 l50
                replace L := below_step L l50
                refine E.GL.run rfl rfl rfl (E.Runs.not rfl rfl) ?_
                refine E.GL.run rfl rfl rfl (E.Runs.pick_f rfl rfl rfl) ?_
                refine E.GL.run rfl rfl rfl (E.Runs.move rfl rfl) ?_
                refine E.GL.skip rfl rfl rfl ?_
                refine E.GL.skip rfl rfl rfl ?_
                refine E.GL.skip rfl rfl rfl ?_
                refine E.GL.skip rfl rfl rfl ?_
                refine E.GL.skip rfl rfl rfl ?_
                refine E.GL.skip rfl rfl rfl ?_
                refine E.GL.skip rfl rfl rfl ?_
                refine E.GL.run rfl rfl rfl (E.Runs.pick_t rfl rfl rfl) ?_
                refine E.GL.done ?_
                refine E.QG.code ?_
                refine E.CG.cond_t rfl ?_
                refine E.CG.seq ?_
                refine E.CG.list ?_
                refine E.GL.run rfl rfl rfl (E.Runs.assign rfl rfl) ?_
                refine E.GL.done ?_
                refine E.QG.code ?_
                refine E.CG.ret ?_
                refine E.QG.block_ret ?_
                refine E.QG.pass_ret ?_
                refine E.QG.pass_ret ?_
                refine E.QG.block_ret ?_
                refine E.QG.pass_ret ?_
                exact E.QG.result rfl rfl ⟨by rw [chkV_no (fun k => h50 (k.q y (List.mem_of_getElem? hy)))], L⟩
            · refine E.GL.st rfl rfl rfl (E.ST.call rfl ent67 (E.evc rfl (E.evc rfl (E.evc rfl E.evn))) ((within_o x 1 50 false (iff_of_false Bool.false_ne_true h42) _).mono ?_))
              rintro e w42 ⟨rfl, l42⟩
              refine ⟨_, rfl, ?_⟩
              replace b1 := blk_below b1 l42
              replace b3 := blk_below b3 l42
              replace L := below_step L l42
              refine E.GL.run rfl rfl rfl (E.Runs.not rfl rfl) ?_
              refine E.GL.run rfl rfl rfl (E.Runs.move rfl rfl) ?_
              refine E.GL.skip rfl rfl rfl ?_
              refine E.GL.skip rfl rfl rfl ?_
              refine E.GL.skip rfl rfl rfl ?_
              refine E.GL.skip rfl rfl rfl ?_
              refine E.GL.skip rfl rfl rfl ?_
              refine E.GL.skip rfl rfl rfl ?_
              refine E.GL.skip rfl rfl rfl ?_
              refine E.GL.run rfl rfl rfl (E.Runs.pick_t rfl rfl rfl) ?_
              refine E.GL.run rfl rfl rfl (E.Runs.move rfl rfl) ?_
              refine E.GL.skip rfl rfl rfl ?_
              refine E.GL.skip rfl rfl rfl ?_
              refine E.GL.skip rfl rfl rfl ?_
              refine E.GL.skip rfl rfl rfl ?_
              refine E.GL.skip rfl rfl rfl ?_
              refine E.GL.skip rfl rfl rfl ?_
              refine E.GL.skip rfl rfl rfl ?_
              refine E.GL.run rfl rfl rfl (E.Runs.pick_t rfl rfl rfl) ?_
              refine E.GL.done ?_
              refine E.QG.code ?_
              refine E.CG.cond_t rfl ?_
              refine E.CG.seq ?_
              refine E.CG.list ?_
              refine E.GL.run rfl rfl rfl (E.Runs.assign rfl rfl) ?_
              refine E.GL.done ?_
              refine E.QG.code ?_
              refine E.CG.ret ?_
              refine E.QG.block_ret ?_
              refine E.QG.pass_ret ?_
              refine E.QG.pass_ret ?_
              refine E.QG.block_ret ?_
              refine E.QG.pass_ret ?_
              exact E.QG.result rfl rfl ⟨by rw [chkV_no (fun k => h42 (k.p x (List.mem_of_getElem? hx)))], L⟩
          · refine E.GL.done ?_
            refine E.QG.code ?_
            refine E.CG.seq ?_
            refine E.CG.cond_f rfl ?_
            refine E.CG.exit ?_
            refine E.QG.pass_exit ?_
            refine E.QG.pass_exit ?_
            refine E.QG.block_here ?_
            refine E.QG.code ?_
            refine E.CG.seq ?_
            refine E.CG.seq ?_
            refine E.CG.list ?_
            refine E.GL.run rfl rfl rfl (E.Runs.fieldAddr rfl rfl hu25 rfl (by assumption) rfl) ?_
            refine E.GL.run rfl rfl rfl (E.Runs.load1 rfl rfl hu23 rfl (by first | assumption | exact E.blkc (by assumption) rfl | exact pw_cell_below L (by assumption))) ?_
            refine E.GL.run rfl rfl rfl (E.Runs.makeFunc rfl (E.evc rfl E.evn)) ?_
            by_cases h66 : ¬ ∀ x ∈ V.cs, COk V.ps.length x
            · refine E.GL.st rfl rfl rfl (E.ST.call rfl ent68 (E.evc rfl (E.evc rfl E.evn)) ((contains68 V.cs m.D m.d V.ps.length g3 _ (hV.below L).cs hs.c hs.s b3 true (iff_of_true rfl h66)).mono ?_))
              rintro e w66 ⟨rfl, l66⟩
              refine ⟨_, rfl, ?_⟩
              replace b1 := blk_below b1 l66
              replace b3 := blk_below b3 l66
              replace L := below_step L l66
              refine E.GL.done ?_
              refine E.QG.code ?_
              refine E.CG.cond_t rfl ?_
              refine E.CG.seq ?_
              refine E.CG.list ?_
              refine E.GL.run rfl rfl rfl (E.Runs.assign rfl rfl) ?_
              refine E.GL.done ?_
              refine E.QG.code ?_
              refine E.CG.ret ?_
              refine E.QG.pass_ret ?_
              exact E.QG.result rfl rfl ⟨by rw [chkV_no (fun k => h66 k.c)], L⟩
            · refine E.GL.st rfl rfl rfl (E.ST.call rfl ent68 (E.evc rfl (E.evc rfl E.evn)) ((contains68 V.cs m.D m.d V.ps.length g3 _ (hV.below L).cs hs.c hs.s b3 false (iff_of_false Bool.false_ne_true h66)).mono ?_))
              rintro e w66 ⟨rfl, l66⟩
              refine ⟨_, rfl, ?_⟩
              replace b1 := blk_below b1 l66
              replace b3 := blk_below b3 l66
              replace L := below_step L l66
              refine E.GL.done ?_
              refine E.QG.code ?_
              refine E.CG.cond_f rfl ?_
              refine E.CG.skip ?_
              refine E.QG.code ?_
              refine E.CG.seq ?_
              refine E.CG.list ?_
              refine E.GL.run rfl rfl rfl (E.Runs.assign rfl rfl) ?_
              refine E.GL.done ?_
              refine E.QG.code ?_
              refine E.CG.ret ?_
              exact E.QG.result rfl rfl ⟨by rw [chkV_yes (⟨by unfold inR at h10; omega, by unfold inR at h10; omega, by omega, by omega, by unfold inR at h30; omega, by unfold inR at h30; omega, all_done hk1 (by omega), all_done hk2 (by omega), all_done hk3 (by omega), Decidable.not_not.mp h66⟩)], L⟩
        · refine E.GL.st rfl rfl rfl (E.ST.call rfl ent67 (E.evc rfl (E.evc rfl (E.evc rfl E.evn))) ((within_o V.cs.length 1 4 false (iff_of_false Bool.false_ne_true h30) _).mono ?_))
          rintro e w30 ⟨rfl, l30⟩
          refine ⟨_, rfl, ?_⟩
          replace b1 := blk_below b1 l30
          replace b3 := blk_below b3 l30
          replace L := below_step L l30
          refine E.GL.run rfl rfl rfl (E.Runs.not rfl rfl) ?_
          refine E.GL.run rfl rfl rfl (E.Runs.pick_f rfl rfl rfl) ?_
          refine E.GL.done ?_
          refine E.QG.code ?_
          refine E.CG.cond_t rfl ?_
          refine E.CG.seq ?_
          refine E.CG.list ?_
          refine E.GL.run rfl rfl rfl (E.Runs.assign rfl rfl) ?_
          refine E.GL.done ?_
          refine E.QG.code ?_
          refine E.CG.ret ?_
          refine E.QG.pass_ret ?_
          exact E.QG.result rfl rfl ⟨by rw [chkV_no (fun k => h30 ⟨by have := k.c1; omega, by have := k.c4; omega⟩)], L⟩
  · refine E.GL.st rfl rfl rfl (E.ST.call rfl ent67 (E.evc rfl (E.evc rfl (E.evc rfl E.evn))) ((within_o V.ps.length 1 3 false (iff_of_false Bool.false_ne_true h10) _).mono ?_))
    rintro e w10 ⟨rfl, l10⟩
    refine ⟨_, rfl, ?_⟩
    replace b1 := blk_below b1 l10
    replace b3 := blk_below b3 l10
    replace L := below_step L l10
    refine E.GL.run rfl rfl rfl (E.Runs.not rfl rfl) ?_
    refine E.GL.run rfl rfl rfl (E.Runs.move rfl rfl) ?_
    refine E.GL.skip rfl rfl rfl ?_
    refine E.GL.skip rfl rfl rfl ?_
    refine E.GL.skip rfl rfl rfl ?_
    refine E.GL.skip rfl rfl rfl ?_
    refine E.GL.skip rfl rfl rfl ?_
    refine E.GL.run rfl rfl rfl (E.Runs.pick_t rfl rfl rfl) ?_
    refine E.GL.run rfl rfl rfl (E.Runs.move rfl rfl) ?_
    refine E.GL.skip rfl rfl rfl ?_
    refine E.GL.skip rfl rfl rfl ?_
    refine E.GL.skip rfl rfl rfl ?_
    refine E.GL.skip rfl rfl rfl ?_
    refine E.GL.skip rfl rfl rfl ?_
    refine E.GL.run rfl rfl rfl (E.Runs.pick_t rfl rfl rfl) ?_
    refine E.GL.run rfl rfl rfl (E.Runs.move rfl rfl) ?_
    refine E.GL.skip rfl rfl rfl ?_
    refine E.GL.skip rfl rfl rfl ?_
    refine E.GL.skip rfl rfl rfl ?_
    refine E.GL.skip rfl rfl rfl ?_
    refine E.GL.skip rfl rfl rfl ?_
    refine E.GL.run rfl rfl rfl (E.Runs.pick_t rfl rfl rfl) ?_
    refine E.GL.done ?_
    refine E.QG.code ?_
    refine E.CG.cond_t rfl ?_
    refine E.CG.seq ?_
    refine E.CG.list ?_
    refine E.GL.run rfl rfl rfl (E.Runs.assign rfl rfl) ?_
    refine E.GL.done ?_
    refine E.QG.code ?_
    refine E.CG.ret ?_
    refine E.QG.pass_ret ?_
    exact E.QG.result rfl rfl ⟨by rw [chkV_no (fun k => h10 ⟨by have := k.n1; omega, by have := k.n3; omega⟩)], L⟩

set_option maxRecDepth 100000 in
set_option maxHeartbeats 8000000 in

theorem areAll_calls (l : List Int) (A : Option Addr) (c : Nat) (lo hi : Int) (w : World) (r : Bool) (hb : r = true ↔ AllR l lo hi) (hr : Kd.C kI w A l.length l) (hn : l.length ≤ 1000000) :
    Calls Try.prog 57 #[.slice A l.length c, .int .i64 lo, .int .i64 hi] w fun e w' => e = .returned (.bool r) ∧ Below w.heap.size w w' := by
  have hu3 := Try.underlying3
  have hu22 := Try.underlying22
  obtain ⟨z3, o3⟩ := info_some info3s (by decide)
  refine E.enter (N := 22) Try.func57 rfl Try.ntmps57 (args := [.slice A l.length c, .int .i64 lo, .int .i64 hi]) (by simp) ?_
  have L := Below.refl w.heap.size w
  refine E.CG.seq ?_
  refine E.CG.list ?_
  refine E.GL.run rfl rfl rfl (E.Runs.assign rfl rfl) ?_
  refine E.GL.done ?_
  refine E.QG.code ?_
  refine E.CG.seq ?_
  refine E.CG.seq ?_
  refine E.CG.list ?_
  refine E.GL.run rfl rfl rfl (E.Runs.assign rfl rfl) ?_
  refine E.GL.done ?_
  refine E.QG.code ?_
  refine E.CG.block ?_
  have s2_L := L
  refine E.CG.loop (fun (i : Nat) => [(0, .slice A l.length c), (1, .int .i64 lo), (2, .int .i64 hi), (7, .int .i64 i)]) (fun i w' => i ≤ l.length ∧ Below w.heap.size w w' ∧ ∀ k, k < i → ∀ x, l[k]? = some x → lo ≤ x ∧ x ≤ hi) (fun i => l.length - i) 0 (E.subc rfl (E.subc rfl (E.subc rfl (E.subc rfl E.subn)))) ⟨Nat.zero_le _, L, fun k hk => by omega⟩ ?_
  rintro i w2 ⟨hil, L, hok⟩
  refine E.CG.seq ?_
  refine E.CG.seq ?_
  refine E.CG.list ?_
  refine E.GL.run rfl rfl rfl (E.Runs.move rfl rfl) ?_
  refine E.GL.run rfl rfl rfl (E.Runs.move rfl rfl) ?_
  refine E.GL.run rfl rfl rfl (E.Runs.len rfl rfl hu22) ?_
  refine E.GL.cmp rfl rfl rfl (fun _ h => (E.Runs.lss rfl rfl rfl h)) (fun h11 => ?_) (fun h11 => ?_)
  · obtain ⟨x, hx⟩ := get_ex (show i < l.length by omega)
    obtain ⟨ad, eA, X⟩ := int_at hr hx
    refine E.GL.done ?_
    refine E.QG.code ?_
    refine E.CG.cond_t rfl ?_
    refine E.CG.skip ?_
    refine E.QG.code ?_
    refine E.CG.seq ?_
    refine E.CG.block ?_
    refine E.CG.seq ?_
    refine E.CG.list ?_
    refine E.GL.run rfl rfl rfl (E.Runs.move rfl rfl) ?_
    refine E.GL.run rfl rfl rfl (E.Runs.move rfl rfl) ?_
    refine E.GL.run rfl rfl rfl (E.Runs.indexAddrA (i := i) rfl rfl rfl hu22 z3 o3 (by omega) eA rfl) ?_
    refine E.GL.run rfl rfl rfl (E.Runs.load rfl rfl hu3 (pw_cell_below L X)) ?_
    refine E.GL.run rfl rfl rfl (E.Runs.move rfl rfl) ?_
    refine E.GL.run rfl rfl rfl (E.Runs.move rfl rfl) ?_
    by_cases h20 : inR x lo hi
    · refine E.GL.st rfl rfl rfl (E.ST.call rfl ent71 (E.evc rfl (E.evc rfl (E.evc rfl E.evn))) ((within_r x lo hi true (iff_of_true rfl h20) _).mono ?_))
      rintro e w20 ⟨rfl, l20⟩
      refine ⟨_, rfl, ?_⟩
      replace L := below_step L l20
      refine E.GL.run rfl rfl rfl (E.Runs.not rfl rfl) ?_
      refine E.GL.done ?_
      refine E.QG.code ?_
      refine E.CG.cond_f rfl ?_
      refine E.CG.skip ?_
      refine E.QG.block_normal ?_
      refine E.QG.code ?_
      refine E.CG.list ?_
      refine E.GL.run rfl rfl rfl (E.Runs.move rfl rfl) ?_
      refine E.GL.run rfl rfl rfl (E.Runs.add rfl rfl rfl (IntWalk.i64_in _ (by omega))) ?_
      refine E.GL.run rfl rfl rfl (E.Runs.assign rfl rfl) ?_
      refine E.GL.done ?_
      exact E.QG.round (i + 1) (E.subc rfl (E.subc rfl (E.subc rfl (E.subc rfl E.subn)))) ⟨by omega, L, all_more hok hx h20⟩ (by omega)
    · refine E.GL.st rfl rfl rfl (E.ST.call rfl ent71 (E.evc rfl (E.evc rfl (E.evc rfl E.evn))) ((within_r x lo hi false (iff_of_false Bool.false_ne_true h20) _).mono ?_))
      rintro e w20 ⟨rfl, l20⟩
      refine ⟨_, rfl, ?_⟩
      replace L := below_step L l20
      refine E.GL.run rfl rfl rfl (E.Runs.not rfl rfl) ?_
      refine E.GL.done ?_
      refine E.QG.code ?_
      refine E.CG.cond_t rfl ?_
      refine E.CG.seq ?_
      refine E.CG.list ?_
      refine E.GL.run rfl rfl rfl (E.Runs.assign rfl rfl) ?_
      refine E.GL.done ?_
      refine E.QG.code ?_
      refine E.CG.ret ?_
      refine E.QG.block_ret ?_
      refine E.QG.pass_ret ?_
      refine E.QG.pass_ret ?_
      refine E.QG.block_ret ?_
      refine E.QG.pass_ret ?_
      exact E.QG.result rfl rfl ⟨by rw [bool_no hb (fun k => h20 (k x (List.mem_of_getElem? hx)))], L⟩
  · refine E.GL.done ?_
    refine E.QG.code ?_
    refine E.CG.cond_f rfl ?_
    refine E.CG.exit ?_
    refine E.QG.pass_exit ?_
    refine E.QG.pass_exit ?_
    refine E.QG.block_here ?_
    refine E.QG.code ?_
    refine E.CG.seq ?_
    refine E.CG.list ?_
    refine E.GL.run rfl rfl rfl (E.Runs.assign rfl rfl) ?_
    refine E.GL.done ?_
    refine E.QG.code ?_
    refine E.CG.ret ?_
    exact E.QG.result rfl rfl ⟨by rw [hb.mpr (all_done hok (by omega))], L⟩

set_option maxRecDepth 100000 in
set_option maxHeartbeats 8000000 in

theorem check34 (V : Ev) (m : Ea) (w : World) (hV : EvM w V m) (hs : Sz V) :
    Calls Try.prog 34 #[hv V m] w fun e w' => e = .returned (.int .i64 (chkV V)) ∧ Below w.heap.size w w' := by
  have hsp := hs.p
  have hsc := hs.c
  have hu3 := Try.underlying3
  have hu22 := Try.underlying22
  have hu23 := Try.underlying23
  have hu25 := Try.underlying25
  have hu40 := Try.underlying40
  obtain ⟨z3, o3⟩ := info_some info3s (by decide)
  obtain ⟨z22, o22⟩ := info_some info22s (by decide)
  obtain ⟨z23, o23⟩ := info_some info23s (by decide)
  obtain ⟨z25, o25⟩ := info_some info25s (by decide)
  obtain ⟨z40, o40⟩ := info_some info40s (by decide)
  refine E.enter (N := 106) Try.func34 rfl Try.ntmps34 (args := [hv V m]) (by simp) ?_
  have L := Below.refl w.heap.size w
  refine E.CG.seq ?_
  refine E.CG.list ?_
  refine E.GL.st rfl rfl rfl (E.ST.box rfl rfl fun g1 w1 e1 b1 l1 => ?_)
  have h1_L : w.heap.size ≤ g1 := by rw [e1]; exact L.size
  replace L := below_step L l1
  refine E.GL.run rfl rfl rfl (E.Runs.assign rfl rfl) ?_
  refine E.GL.done ?_
  refine E.QG.code ?_
  refine E.CG.seq ?_
  refine E.CG.list ?_
  refine E.GL.run rfl rfl rfl (E.Runs.assign rfl rfl) ?_
  refine E.GL.done ?_
  refine E.QG.code ?_
  refine E.CG.seq ?_
  refine E.CG.seq ?_
  refine E.CG.list ?_
  refine E.GL.run rfl rfl rfl (E.Runs.fieldAddr rfl rfl hu25 rfl (by assumption) rfl) ?_
  refine E.GL.run rfl rfl rfl (E.Runs.load1 rfl rfl hu22 rfl (by first | assumption | exact E.blkc (by assumption) rfl | exact pw_cell_below L (by assumption))) ?_
  refine E.GL.run rfl rfl rfl (E.Runs.len rfl rfl hu22) ?_
  by_cases h9 : inR V.ps.length 1 3
  · refine E.GL.st rfl rfl rfl (E.ST.call rfl ent71 (E.evc rfl (E.evc rfl (E.evc rfl E.evn))) ((within_r V.ps.length 1 3 true (iff_of_true rfl h9) _).mono ?_))
    rintro e w9 ⟨rfl, l9⟩
    refine ⟨_, rfl, ?_⟩
    replace b1 := blk_below b1 l9
    replace L := below_step L l9
    refine E.GL.run rfl rfl rfl (E.Runs.not rfl rfl) ?_
    refine E.GL.run rfl rfl rfl (E.Runs.move rfl rfl) ?_
    refine E.GL.run rfl rfl rfl (E.Runs.fieldAddr rfl rfl hu25 rfl (by assumption) rfl) ?_
    refine E.GL.run rfl rfl rfl (E.Runs.load1 rfl rfl hu22 rfl (by first | assumption | exact E.blkc (by assumption) rfl | exact pw_cell_below L (by assumption))) ?_
    refine E.GL.run rfl rfl rfl (E.Runs.len rfl rfl hu22) ?_
    refine E.GL.run rfl rfl rfl (E.Runs.fieldAddr rfl rfl hu25 rfl (by assumption) rfl) ?_
    refine E.GL.run rfl rfl rfl (E.Runs.load1 rfl rfl hu22 rfl (by first | assumption | exact E.blkc (by assumption) rfl | exact pw_cell_below L (by assumption))) ?_
    refine E.GL.run rfl rfl rfl (E.Runs.len rfl rfl hu22) ?_
    refine E.GL.cmpn rfl rfl rfl (fun _ h => (E.Runs.neq rfl rfl rfl h)) (fun h18 => ?_) (fun h18 => ?_)
    · refine E.GL.run rfl rfl rfl (E.Runs.pick_f rfl rfl rfl) ?_
      refine E.GL.run rfl rfl rfl (E.Runs.move rfl rfl) ?_
      refine E.GL.skip rfl rfl rfl ?_
      refine E.GL.skip rfl rfl rfl ?_
      refine E.GL.skip rfl rfl rfl ?_
      refine E.GL.skip rfl rfl rfl ?_
      refine E.GL.skip rfl rfl rfl ?_
      refine E.GL.skip rfl rfl rfl ?_
      refine E.GL.skip rfl rfl rfl ?_
      refine E.GL.run rfl rfl rfl (E.Runs.pick_t rfl rfl rfl) ?_
      refine E.GL.run rfl rfl rfl (E.Runs.move rfl rfl) ?_
      refine E.GL.skip rfl rfl rfl ?_
      refine E.GL.skip rfl rfl rfl ?_
      refine E.GL.skip rfl rfl rfl ?_
      refine E.GL.skip rfl rfl rfl ?_
      refine E.GL.run rfl rfl rfl (E.Runs.pick_t rfl rfl rfl) ?_
      refine E.GL.run rfl rfl rfl (E.Runs.move rfl rfl) ?_
      refine E.GL.skip rfl rfl rfl ?_
      refine E.GL.skip rfl rfl rfl ?_
      refine E.GL.skip rfl rfl rfl ?_
      refine E.GL.skip rfl rfl rfl ?_
      refine E.GL.skip rfl rfl rfl ?_
      refine E.GL.run rfl rfl rfl (E.Runs.pick_t rfl rfl rfl) ?_
      refine E.GL.run rfl rfl rfl (E.Runs.move rfl rfl) ?_
      refine E.GL.skip rfl rfl rfl ?_
      refine E.GL.skip rfl rfl rfl ?_
      refine E.GL.skip rfl rfl rfl ?_
      refine E.GL.skip rfl rfl rfl ?_
      refine E.GL.skip rfl rfl rfl ?_
      refine E.GL.run rfl rfl rfl (E.Runs.pick_t rfl rfl rfl) ?_
      refine E.GL.run rfl rfl rfl (E.Runs.move rfl rfl) ?_
      refine E.GL.skip rfl rfl rfl ?_
      refine E.GL.skip rfl rfl rfl ?_
      refine E.GL.skip rfl rfl rfl ?_
      refine E.GL.skip rfl rfl rfl ?_
      refine E.GL.skip rfl rfl rfl ?_
      refine E.GL.run rfl rfl rfl (E.Runs.pick_t rfl rfl rfl) ?_
      refine E.GL.done ?_
      refine E.QG.code ?_
      refine E.CG.cond_t rfl ?_
      refine E.CG.seq ?_
      refine E.CG.list ?_
      refine E.GL.run rfl rfl rfl (E.Runs.assign rfl rfl) ?_
      refine E.GL.done ?_
      refine E.QG.code ?_
      refine E.CG.ret ?_
      refine E.QG.pass_ret ?_
      exact E.QG.result rfl rfl ⟨by rw [chkV_no (fun k => h18 (by rw [k.nq]))], L⟩
    · refine E.GL.run rfl rfl rfl (E.Runs.pick_f rfl rfl rfl) ?_
      refine E.GL.run rfl rfl rfl (E.Runs.move rfl rfl) ?_
      refine E.GL.run rfl rfl rfl (E.Runs.fieldAddr rfl rfl hu25 rfl (by assumption) rfl) ?_
      refine E.GL.run rfl rfl rfl (E.Runs.load1 rfl rfl hu22 rfl (by first | assumption | exact E.blkc (by assumption) rfl | exact pw_cell_below L (by assumption))) ?_
      refine E.GL.run rfl rfl rfl (E.Runs.len rfl rfl hu22) ?_
      refine E.GL.run rfl rfl rfl (E.Runs.fieldAddr rfl rfl hu25 rfl (by assumption) rfl) ?_
      refine E.GL.run rfl rfl rfl (E.Runs.load1 rfl rfl hu22 rfl (by first | assumption | exact E.blkc (by assumption) rfl | exact pw_cell_below L (by assumption))) ?_
      refine E.GL.run rfl rfl rfl (E.Runs.len rfl rfl hu22) ?_
      refine E.GL.cmpn rfl rfl rfl (fun _ h => (E.Runs.neq rfl rfl rfl h)) (fun h27 => ?_) (fun h27 => ?_)
      · refine E.GL.run rfl rfl rfl (E.Runs.pick_f rfl rfl rfl) ?_
        refine E.GL.run rfl rfl rfl (E.Runs.move rfl rfl) ?_
        refine E.GL.skip rfl rfl rfl ?_
        refine E.GL.skip rfl rfl rfl ?_
        refine E.GL.skip rfl rfl rfl ?_
        refine E.GL.skip rfl rfl rfl ?_
        refine E.GL.run rfl rfl rfl (E.Runs.pick_t rfl rfl rfl) ?_
        refine E.GL.run rfl rfl rfl (E.Runs.move rfl rfl) ?_
        refine E.GL.skip rfl rfl rfl ?_
        refine E.GL.skip rfl rfl rfl ?_
        refine E.GL.skip rfl rfl rfl ?_
        refine E.GL.skip rfl rfl rfl ?_
        refine E.GL.skip rfl rfl rfl ?_
        refine E.GL.run rfl rfl rfl (E.Runs.pick_t rfl rfl rfl) ?_
        refine E.GL.run rfl rfl rfl (E.Runs.move rfl rfl) ?_
        refine E.GL.skip rfl rfl rfl ?_
        refine E.GL.skip rfl rfl rfl ?_
        refine E.GL.skip rfl rfl rfl ?_
        refine E.GL.skip rfl rfl rfl ?_
        refine E.GL.skip rfl rfl rfl ?_
        refine E.GL.run rfl rfl rfl (E.Runs.pick_t rfl rfl rfl) ?_
        refine E.GL.run rfl rfl rfl (E.Runs.move rfl rfl) ?_
        refine E.GL.skip rfl rfl rfl ?_
        refine E.GL.skip rfl rfl rfl ?_
        refine E.GL.skip rfl rfl rfl ?_
        refine E.GL.skip rfl rfl rfl ?_
        refine E.GL.skip rfl rfl rfl ?_
        refine E.GL.run rfl rfl rfl (E.Runs.pick_t rfl rfl rfl) ?_
        refine E.GL.done ?_
        refine E.QG.code ?_
        refine E.CG.cond_t rfl ?_
        refine E.CG.seq ?_
        refine E.CG.list ?_
        refine E.GL.run rfl rfl rfl (E.Runs.assign rfl rfl) ?_
        refine E.GL.done ?_
        refine E.QG.code ?_
        refine E.CG.ret ?_
        refine E.QG.pass_ret ?_
        exact E.QG.result rfl rfl ⟨by rw [chkV_no (fun k => h27 (by rw [k.nt]))], L⟩
      · refine E.GL.run rfl rfl rfl (E.Runs.pick_f rfl rfl rfl) ?_
        refine E.GL.run rfl rfl rfl (E.Runs.move rfl rfl) ?_
        refine E.GL.run rfl rfl rfl (E.Runs.fieldAddr rfl rfl hu25 rfl (by assumption) rfl) ?_
        refine E.GL.run rfl rfl rfl (E.Runs.load1 rfl rfl hu22 rfl (by first | assumption | exact E.blkc (by assumption) rfl | exact pw_cell_below L (by assumption))) ?_
        by_cases h32 : AllR V.ps 1 50
        · refine E.GL.st rfl rfl rfl (E.ST.call rfl ent57 (E.evc rfl (E.evc rfl (E.evc rfl E.evn))) ((areAll_calls V.ps m.A m.a 1 50 _ true (iff_of_true rfl h32) (hV.below L).ps hs.p).mono ?_))
          rintro e w32 ⟨rfl, l32⟩
          refine ⟨_, rfl, ?_⟩
          replace b1 := blk_below b1 l32
          replace L := below_step L l32
          refine E.GL.run rfl rfl rfl (E.Runs.not rfl rfl) ?_
          refine E.GL.run rfl rfl rfl (E.Runs.pick_f rfl rfl rfl) ?_
          refine E.GL.run rfl rfl rfl (E.Runs.move rfl rfl) ?_
          refine E.GL.run rfl rfl rfl (E.Runs.fieldAddr rfl rfl hu25 rfl (by assumption) rfl) ?_
          refine E.GL.run rfl rfl rfl (E.Runs.load1 rfl rfl hu22 rfl (by first | assumption | exact E.blkc (by assumption) rfl | exact pw_cell_below L (by assumption))) ?_
          refine E.GL.run rfl rfl rfl (E.Runs.move rfl rfl) ?_
          by_cases h39 : AllR V.qs 0 80
          · refine E.GL.st rfl rfl rfl (E.ST.call rfl ent57 (E.evc rfl (E.evc rfl (E.evc rfl E.evn))) ((areAll_calls V.qs m.B m.b 0 80 _ true (iff_of_true rfl h39) (hV.below L).qs hs.q).mono ?_))
            rintro e w39 ⟨rfl, l39⟩
            refine ⟨_, rfl, ?_⟩
            replace b1 := blk_below b1 l39
            replace L := below_step L l39
            refine E.GL.run rfl rfl rfl (E.Runs.not rfl rfl) ?_
            refine E.GL.run rfl rfl rfl (E.Runs.pick_f rfl rfl rfl) ?_
            refine E.GL.run rfl rfl rfl (E.Runs.move rfl rfl) ?_
            refine E.GL.run rfl rfl rfl (E.Runs.fieldAddr rfl rfl hu25 rfl (by assumption) rfl) ?_
            refine E.GL.run rfl rfl rfl (E.Runs.load1 rfl rfl hu22 rfl (by first | assumption | exact E.blkc (by assumption) rfl | exact pw_cell_below L (by assumption))) ?_
            refine E.GL.run rfl rfl rfl (E.Runs.move rfl rfl) ?_
            by_cases h46 : AllR V.ts 0 80
            · refine E.GL.st rfl rfl rfl (E.ST.call rfl ent57 (E.evc rfl (E.evc rfl (E.evc rfl E.evn))) ((areAll_calls V.ts m.C m.c 0 80 _ true (iff_of_true rfl h46) (hV.below L).ts hs.t).mono ?_))
              rintro e w46 ⟨rfl, l46⟩
              refine ⟨_, rfl, ?_⟩
              replace b1 := blk_below b1 l46
              replace L := below_step L l46
              refine E.GL.run rfl rfl rfl (E.Runs.not rfl rfl) ?_
              refine E.GL.run rfl rfl rfl (E.Runs.pick_f rfl rfl rfl) ?_
              refine E.GL.run rfl rfl rfl (E.Runs.move rfl rfl) ?_
              refine E.GL.run rfl rfl rfl (E.Runs.fieldAddr rfl rfl hu25 rfl (by assumption) rfl) ?_
              refine E.GL.run rfl rfl rfl (E.Runs.load1 rfl rfl hu23 rfl (by first | assumption | exact E.blkc (by assumption) rfl | exact pw_cell_below L (by assumption))) ?_
              refine E.GL.run rfl rfl rfl (E.Runs.len rfl rfl hu23) ?_
              by_cases h53 : inR V.cs.length 1 4
              · refine E.GL.st rfl rfl rfl (E.ST.call rfl ent71 (E.evc rfl (E.evc rfl (E.evc rfl E.evn))) ((within_r V.cs.length 1 4 true (iff_of_true rfl h53) _).mono ?_))
                rintro e w53 ⟨rfl, l53⟩
                refine ⟨_, rfl, ?_⟩
                replace b1 := blk_below b1 l53
                replace L := below_step L l53
                refine E.GL.run rfl rfl rfl (E.Runs.not rfl rfl) ?_
                refine E.GL.run rfl rfl rfl (E.Runs.pick_f rfl rfl rfl) ?_
                refine E.GL.done ?_
                refine E.QG.code ?_
                refine E.CG.cond_f rfl ?_
                refine E.CG.skip ?_
                refine E.QG.code ?_
                refine E.CG.seq ?_
                refine E.CG.seq ?_
                refine E.CG.list ?_
                refine E.GL.run rfl rfl rfl (E.Runs.assign rfl rfl) ?_
                refine E.GL.done ?_
                refine E.QG.code ?_
                refine E.CG.block ?_
                have s5_b1 := b1
                have s5_L := L
                refine E.CG.loop (fun (i : Nat) => [(1, .pointer (some ⟨g1, 0, none⟩)), (4, .int .i64 i)]) (fun i w' => i ≤ V.cs.length ∧ (∀ k, k < i → ∀ x, V.cs[k]? = some x → COk V.ps.length x) ∧ w'.heap[g1]? = some (.cells #[.slice m.A V.ps.length m.a, .slice m.B V.qs.length m.b, .slice m.C V.ts.length m.c, .slice m.D V.cs.length m.d] 25 (0, 0)) ∧ Below w.heap.size w w') (fun i => V.cs.length - i) 0 (E.subc rfl (E.subc rfl E.subn)) ⟨Nat.zero_le _, fun k hk => by omega, b1, L⟩ ?_
                rintro i w5 ⟨hi, hk1, b1, L⟩
                refine E.CG.seq ?_
                refine E.CG.seq ?_
                refine E.CG.list ?_
                refine E.GL.run rfl rfl rfl (E.Runs.move rfl rfl) ?_
                refine E.GL.run rfl rfl rfl (E.Runs.fieldAddr rfl rfl hu25 rfl (by assumption) rfl) ?_
                refine E.GL.run rfl rfl rfl (E.Runs.load1 rfl rfl hu23 rfl (by first | assumption | exact E.blkc (by assumption) rfl | exact pw_cell_below L (by assumption))) ?_
                refine E.GL.run rfl rfl rfl (E.Runs.len rfl rfl hu23) ?_
                refine E.GL.cmp rfl rfl rfl (fun _ h => (E.Runs.lss rfl rfl rfl h)) (fun h60 => ?_) (fun h60 => ?_)
                · obtain ⟨x, hx⟩ := get_ex (show i < V.cs.length by omega)
                  obtain ⟨ad, a0, k0, eA, _, hx0, X⟩ := till_at hV.cs hx
                  refine E.GL.done ?_
                  refine E.QG.code ?_
                  refine E.CG.cond_t rfl ?_
                  refine E.CG.skip ?_
                  refine E.QG.code ?_
                  refine E.CG.seq ?_
                  refine E.CG.block ?_
                  refine E.CG.seq ?_
                  refine E.CG.list ?_
                  refine E.GL.run rfl rfl rfl (E.Runs.fieldAddr rfl rfl hu25 rfl (by assumption) rfl) ?_
                  refine E.GL.run rfl rfl rfl (E.Runs.load1 rfl rfl hu23 rfl (by first | assumption | exact E.blkc (by assumption) rfl | exact pw_cell_below L (by assumption))) ?_
                  refine E.GL.run rfl rfl rfl (E.Runs.move rfl rfl) ?_
                  refine E.GL.run rfl rfl rfl (E.Runs.indexAddrA (i := i) rfl rfl rfl hu23 z40 o40 (by omega) eA rfl) ?_
                  refine E.GL.run rfl rfl rfl (E.Runs.loads (cs := [.slice a0 x.f0.length k0, .int .i64 x.f1, .int .i64 x.f2, .int .i64 x.f3, .int .i64 x.f4, .int .i64 x.f5]) rfl rfl hu40 rfl info40s (fun j v hv => pw_cell_below L (X j v hv))) ?_
                  refine E.GL.st rfl rfl rfl (E.ST.alloc rfl info40z fun g5 w5 e5 b5 l5 => ?_)
                  have h5_L : w.heap.size ≤ g5 := by rw [e5]; exact L.size
                  have n5_b1 : g1 ≠ g5 := by have := blk_lt b1; omega
                  replace b1 := blk_below b1 l5
                  replace L := below_step L l5
                  refine E.GL.store_whole rfl rfl rfl rfl rfl b5 rfl info40s (cells6_one _ _ _ _ _ _ _ _) fun wS7_6 c5 lS7_6 => ?_
                  replace b1 := blk_grown b1 lS7_6 (E.nes (by first | assumption | exact Ne.symm (by assumption)))
                  replace L := E.below_own L h5_L lS7_6
                  replace b5 := c5
                  clear c5
                  refine E.GL.done ?_
                  refine E.QG.code ?_
                  refine E.CG.seq ?_
                  refine E.CG.list ?_
                  refine E.GL.run rfl rfl rfl (E.Runs.fieldAddr rfl rfl hu40 rfl (by assumption) rfl) ?_
                  refine E.GL.run rfl rfl rfl (E.Runs.load1 rfl rfl hu22 rfl (by first | assumption | exact E.blkc (by assumption) rfl | exact pw_cell_below L (by assumption))) ?_
                  refine E.GL.run rfl rfl rfl (E.Runs.len rfl rfl hu22) ?_
                  refine E.GL.run rfl rfl rfl (E.Runs.fieldAddr rfl rfl hu25 rfl (by assumption) rfl) ?_
                  refine E.GL.run rfl rfl rfl (E.Runs.load1 rfl rfl hu22 rfl (by first | assumption | exact E.blkc (by assumption) rfl | exact pw_cell_below L (by assumption))) ?_
                  refine E.GL.run rfl rfl rfl (E.Runs.len rfl rfl hu22) ?_
                  refine E.GL.cmpn rfl rfl rfl (fun _ h => (E.Runs.neq rfl rfl rfl h)) (fun h74 => ?_) (fun h74 => ?_)
                  · refine E.GL.run rfl rfl rfl (E.Runs.move rfl rfl) ?_
                    refine E.GL.skip rfl rfl rfl ?_
                    refine E.GL.skip rfl rfl rfl ?_
                    refine E.GL.skip rfl rfl rfl ?_
                    refine E.GL.skip rfl rfl rfl ?_
                    refine E.GL.run rfl rfl rfl (E.Runs.pick_t rfl rfl rfl) ?_
                    refine E.GL.run rfl rfl rfl (E.Runs.move rfl rfl) ?_
                    refine E.GL.skip rfl rfl rfl ?_
                    refine E.GL.skip rfl rfl rfl ?_
                    refine E.GL.skip rfl rfl rfl ?_
                    refine E.GL.skip rfl rfl rfl ?_
                    refine E.GL.skip rfl rfl rfl ?_
                    refine E.GL.skip rfl rfl rfl ?_
                    refine E.GL.skip rfl rfl rfl ?_
                    refine E.GL.skip rfl rfl rfl ?_
                    refine E.GL.skip rfl rfl rfl ?_
                    refine E.GL.skip rfl rfl rfl ?_
                    refine E.GL.skip rfl rfl rfl ?_
                    refine E.GL.run rfl rfl rfl (E.Runs.pick_t rfl rfl rfl) ?_
                    refine E.GL.run rfl rfl rfl (E.Runs.move rfl rfl) ?_
                    refine E.GL.skip rfl rfl rfl ?_
                    refine E.GL.skip rfl rfl rfl ?_
                    refine E.GL.skip rfl rfl rfl ?_
                    refine E.GL.skip rfl rfl rfl ?_
                    refine E.GL.run rfl rfl rfl (E.Runs.pick_t rfl rfl rfl) ?_
                    refine E.GL.run rfl rfl rfl (E.Runs.move rfl rfl) ?_
                    refine E.GL.skip rfl rfl rfl ?_
                    refine E.GL.skip rfl rfl rfl ?_
                    refine E.GL.skip rfl rfl rfl ?_
                    refine E.GL.skip rfl rfl rfl ?_
                    refine E.GL.run rfl rfl rfl (E.Runs.pick_t rfl rfl rfl) ?_
                    refine E.GL.done ?_
                    refine E.QG.code ?_
                    refine E.CG.cond_t rfl ?_
                    refine E.CG.seq ?_
                    refine E.CG.list ?_
                    refine E.GL.run rfl rfl rfl (E.Runs.assign rfl rfl) ?_
                    refine E.GL.done ?_
                    refine E.QG.code ?_
                    refine E.CG.ret ?_
                    refine E.QG.block_ret ?_
                    refine E.QG.pass_ret ?_
                    refine E.QG.pass_ret ?_
                    refine E.QG.block_ret ?_
                    refine E.QG.pass_ret ?_
                    exact E.QG.result rfl rfl ⟨by rw [chkV_no (fun k => h74 (by rw [(k.c x (List.mem_of_getElem? hx)).1]))], L⟩
                  · refine E.GL.run rfl rfl rfl (E.Runs.move rfl rfl) ?_
                    refine E.GL.run rfl rfl rfl (E.Runs.fieldAddr rfl rfl hu40 rfl (by assumption) rfl) ?_
                    refine E.GL.run rfl rfl rfl (E.Runs.load1 rfl rfl hu22 rfl (by first | assumption | exact E.blkc (by assumption) rfl | exact pw_cell_below L (by assumption))) ?_
                    by_cases h78 : AllR x.f0 0 20
                    · refine E.GL.st rfl rfl rfl (E.ST.call rfl ent57 (E.evc rfl (E.evc rfl (E.evc rfl E.evn))) ((areAll_calls x.f0 a0 k0 0 20 _ true (iff_of_true rfl h78) (Kd.C_below hx0 L) (hs.s x (List.mem_of_getElem? hx))).mono ?_))
                      rintro e w78 ⟨rfl, l78⟩
                      refine ⟨_, rfl, ?_⟩
                      replace b1 := blk_below b1 l78
                      replace b5 := blk_below b5 l78
                      replace L := below_step L l78
                      refine E.GL.run rfl rfl rfl (E.Runs.not rfl rfl) ?_
                      refine E.GL.run rfl rfl rfl (E.Runs.pick_f rfl rfl rfl) ?_
                      refine E.GL.run rfl rfl rfl (E.Runs.move rfl rfl) ?_
                      refine E.GL.run rfl rfl rfl (E.Runs.fieldAddr rfl rfl hu40 rfl (by assumption) rfl) ?_
                      refine E.GL.run rfl rfl rfl (E.Runs.load rfl rfl hu3 (by first | assumption | exact E.blkc (by assumption) rfl | exact pw_cell_below L (by assumption))) ?_
                      refine E.GL.run rfl rfl rfl (E.Runs.fieldAddr rfl rfl hu40 rfl (by assumption) rfl) ?_
                      refine E.GL.run rfl rfl rfl (E.Runs.load rfl rfl hu3 (by first | assumption | exact E.blkc (by assumption) rfl | exact pw_cell_below L (by assumption))) ?_
                      refine E.GL.run rfl rfl rfl (E.Runs.fieldAddr rfl rfl hu40 rfl (by assumption) rfl) ?_
                      refine E.GL.run rfl rfl rfl (E.Runs.load rfl rfl hu3 (by first | assumption | exact E.blkc (by assumption) rfl | exact pw_cell_below L (by assumption))) ?_
                      refine E.GL.run rfl rfl rfl (E.Runs.fieldAddr rfl rfl hu40 rfl (by assumption) rfl) ?_
                      refine E.GL.run rfl rfl rfl (E.Runs.load rfl rfl hu3 (by first | assumption | exact E.blkc (by assumption) rfl | exact pw_cell_below L (by assumption))) ?_
                      refine E.GL.st rfl rfl rfl (E.ST.litB (cs := (([x.f1, x.f2, x.f4, x.f5] : List Int).map (Value.int .i64)).toArray) rfl (E.epc rfl (E.epc rfl (E.epc rfl (E.epc rfl E.epn)))) (lit22_4 _ _ _ _) fun g90 w90 e90 b90 l90 => ?_)
                      have h90_L : w.heap.size ≤ g90 := by rw [e90]; exact L.size
                      have n90_b1 : g1 ≠ g90 := by have := blk_lt b1; omega
                      have n90_b5 : g5 ≠ g90 := by have := blk_lt b5; omega
                      replace b1 := blk_below b1 l90
                      replace b5 := blk_below b5 l90
                      replace L := below_step L l90
                      by_cases h91 : AllR [x.f1, x.f2, x.f4, x.f5] 0 9999
                      · refine E.GL.st rfl rfl rfl (E.ST.call rfl ent57 (E.evc rfl (E.evc rfl (E.evc rfl E.evn))) ((areAll_calls [x.f1, x.f2, x.f4, x.f5] (some ⟨g90, 0, none⟩) 4 0 9999 _ true (iff_of_true rfl h91) (C_nums [x.f1, x.f2, x.f4, x.f5] b90 (show 4 ≤ 1000000 by decide)) (show 4 ≤ 1000000 by decide)).mono ?_))
                        rintro e w91 ⟨rfl, l91⟩
                        refine ⟨_, rfl, ?_⟩
                        replace b1 := blk_below b1 l91
                        replace b5 := blk_below b5 l91
                        replace b90 := blk_below b90 l91
                        replace L := below_step L l91
                        refine E.GL.run rfl rfl rfl (E.Runs.not rfl rfl) ?_
                        refine E.GL.run rfl rfl rfl (E.Runs.pick_f rfl rfl rfl) ?_
                        refine E.GL.run rfl rfl rfl (E.Runs.move rfl rfl) ?_
                        refine E.GL.run rfl rfl rfl (E.Runs.fieldAddr rfl rfl hu40 rfl (by assumption) rfl) ?_
                        refine E.GL.run rfl rfl rfl (E.Runs.load rfl rfl hu3 (by first | assumption | exact E.blkc (by assumption) rfl | exact pw_cell_below L (by assumption))) ?_
                        by_cases h97 : inR x.f3 0 20
                        · refine E.GL.st rfl rfl rfl (E.ST.call rfl ent71 (E.evc rfl (E.evc rfl (E.evc rfl E.evn))) ((within_r x.f3 0 20 true (iff_of_true rfl h97) _).mono ?_))
                          rintro e w97 ⟨rfl, l97⟩
                          refine ⟨_, rfl, ?_⟩
                          replace b1 := blk_below b1 l97
                          replace b5 := blk_below b5 l97
                          replace b90 := blk_below b90 l97
                          replace L := below_step L l97
                          refine E.GL.run rfl rfl rfl (E.Runs.not rfl rfl) ?_
                          refine E.GL.run rfl rfl rfl (E.Runs.pick_f rfl rfl rfl) ?_
                          refine E.GL.run rfl rfl rfl (E.Runs.move rfl rfl) ?_
                          refine E.GL.run rfl rfl rfl (E.Runs.loads (cs := [.slice a0 x.f0.length k0, .int .i64 x.f1, .int .i64 x.f2, .int .i64 x.f3, .int .i64 x.f4, .int .i64 x.f5]) rfl rfl hu40 rfl info40s (blk_cells b5)) ?_
                          refine E.GL.st rfl rfl rfl (E.ST.call rfl ent38 (E.evc rfl E.evn) ((roll_r x a0 k0 _ (h91 x.f1 (by simp)) (h91 x.f2 (by simp)) h97).mono ?_))
                          rintro e w102 ⟨rfl, l102⟩
                          refine ⟨_, rfl, ?_⟩
                          replace b1 := blk_below b1 l102
                          replace b5 := blk_below b5 l102
                          replace b90 := blk_below b90 l102
                          replace L := below_step L l102
                          by_cases h103 : inR (rl x) 0 20
                          · refine E.GL.st rfl rfl rfl (E.ST.call rfl ent71 (E.evc rfl (E.evc rfl (E.evc rfl E.evn))) ((within_r (rl x) 0 20 true (iff_of_true rfl h103) _).mono ?_))
                            rintro e w103 ⟨rfl, l103⟩
                            refine ⟨_, rfl, ?_⟩
                            replace b1 := blk_below b1 l103
                            replace b5 := blk_below b5 l103
                            replace b90 := blk_below b90 l103
                            replace L := below_step L l103
                            refine E.GL.run rfl rfl rfl (E.Runs.not rfl rfl) ?_
                            refine E.GL.run rfl rfl rfl (E.Runs.pick_f rfl rfl rfl) ?_
                            refine E.GL.done ?_
                            refine E.QG.code ?_
                            refine E.CG.cond_f rfl ?_
                            refine E.CG.skip ?_
                            refine E.QG.block_normal ?_
                            refine E.QG.code ?_
                            refine E.CG.list ?_
                            refine E.GL.run rfl rfl rfl (E.Runs.move rfl rfl) ?_
                            refine E.GL.run rfl rfl rfl (E.Runs.add rfl rfl rfl (IntWalk.i64_in _ (by omega))) ?_
                            refine E.GL.run rfl rfl rfl (E.Runs.assign rfl rfl) ?_
                            refine E.GL.done ?_
                            exact E.QG.round (i + 1) (E.subc rfl (E.subc rfl E.subn)) ⟨by omega, all_more hk1 hx ⟨by omega, h78, h91 x.f1 (by simp), h91 x.f2 (by simp), h91 x.f4 (by simp), h91 x.f5 (by simp), h97, h103⟩, b1, L⟩ (by omega)
                          · refine E.GL.st rfl rfl rfl (E.ST.call rfl ent71 (E.evc rfl (E.evc rfl (E.evc rfl E.evn))) ((within_r (rl x) 0 20 false (iff_of_false Bool.false_ne_true h103) _).mono ?_))
                            rintro e w103 ⟨rfl, l103⟩
                            refine ⟨_, rfl, ?_⟩
                            replace b1 := blk_below b1 l103
                            replace b5 := blk_below b5 l103
                            replace b90 := blk_below b90 l103
                            replace L := below_step L l103
                            refine E.GL.run rfl rfl rfl (E.Runs.not rfl rfl) ?_
                            refine E.GL.run rfl rfl rfl (E.Runs.pick_f rfl rfl rfl) ?_
                            refine E.GL.done ?_
                            refine E.QG.code ?_
                            refine E.CG.cond_t rfl ?_
                            refine E.CG.seq ?_
                            refine E.CG.list ?_
                            refine E.GL.run rfl rfl rfl (E.Runs.assign rfl rfl) ?_
                            refine E.GL.done ?_
                            refine E.QG.code ?_
                            refine E.CG.ret ?_
                            refine E.QG.block_ret ?_
                            refine E.QG.pass_ret ?_
                            refine E.QG.pass_ret ?_
                            refine E.QG.block_ret ?_
                            refine E.QG.pass_ret ?_
                            exact E.QG.result rfl rfl ⟨by rw [chkV_no (fun k => h103 (k.c x (List.mem_of_getElem? hx)).2.2.2.2.2.2.2)], L⟩
                        · refine E.GL.st rfl rfl rfl (E.ST.call rfl ent71 (E.evc rfl (E.evc rfl (E.evc rfl E.evn))) ((within_r x.f3 0 20 false (iff_of_false Bool.false_ne_true h97) _).mono ?_))
                          rintro e w97 ⟨rfl, l97⟩
                          refine ⟨_, rfl, ?_⟩
                          replace b1 := blk_below b1 l97
                          replace b5 := blk_below b5 l97
                          replace b90 := blk_below b90 l97
                          replace L := below_step L l97
                          refine E.GL.run rfl rfl rfl (E.Runs.not rfl rfl) ?_
                          refine E.GL.run rfl rfl rfl (E.Runs.pick_f rfl rfl rfl) ?_
                          refine E.GL.run rfl rfl rfl (E.Runs.move rfl rfl) ?_
                          refine E.GL.skip rfl rfl rfl ?_
                          refine E.GL.skip rfl rfl rfl ?_
                          refine E.GL.skip rfl rfl rfl ?_
                          refine E.GL.skip rfl rfl rfl ?_
                          refine E.GL.run rfl rfl rfl (E.Runs.pick_t rfl rfl rfl) ?_
                          refine E.GL.done ?_
                          refine E.QG.code ?_
                          refine E.CG.cond_t rfl ?_
                          refine E.CG.seq ?_
                          refine E.CG.list ?_
                          refine E.GL.run rfl rfl rfl (E.Runs.assign rfl rfl) ?_
                          refine E.GL.done ?_
                          refine E.QG.code ?_
                          refine E.CG.ret ?_
                          refine E.QG.block_ret ?_
                          refine E.QG.pass_ret ?_
                          refine E.QG.pass_ret ?_
                          refine E.QG.block_ret ?_
                          refine E.QG.pass_ret ?_
                          exact E.QG.result rfl rfl ⟨by rw [chkV_no (fun k => h97 (k.c x (List.mem_of_getElem? hx)).2.2.2.2.2.2.1)], L⟩
                      · refine E.GL.st rfl rfl rfl (E.ST.call rfl ent57 (E.evc rfl (E.evc rfl (E.evc rfl E.evn))) ((areAll_calls [x.f1, x.f2, x.f4, x.f5] (some ⟨g90, 0, none⟩) 4 0 9999 _ false (iff_of_false Bool.false_ne_true h91) (C_nums [x.f1, x.f2, x.f4, x.f5] b90 (show 4 ≤ 1000000 by decide)) (show 4 ≤ 1000000 by decide)).mono ?_))
                        rintro e w91 ⟨rfl, l91⟩
                        refine ⟨_, rfl, ?_⟩
                        replace b1 := blk_below b1 l91
                        replace b5 := blk_below b5 l91
                        replace b90 := blk_below b90 l91
                        replace L := below_step L l91
                        refine E.GL.run rfl rfl rfl (E.Runs.not rfl rfl) ?_
                        refine E.GL.run rfl rfl rfl (E.Runs.pick_f rfl rfl rfl) ?_
                        refine E.GL.run rfl rfl rfl (E.Runs.move rfl rfl) ?_
                        refine E.GL.skip rfl rfl rfl ?_
                        refine E.GL.skip rfl rfl rfl ?_
                        refine E.GL.skip rfl rfl rfl ?_
                        refine E.GL.skip rfl rfl rfl ?_
                        refine E.GL.run rfl rfl rfl (E.Runs.pick_t rfl rfl rfl) ?_
                        refine E.GL.run rfl rfl rfl (E.Runs.move rfl rfl) ?_
                        refine E.GL.skip rfl rfl rfl ?_
                        refine E.GL.skip rfl rfl rfl ?_
                        refine E.GL.skip rfl rfl rfl ?_
                        refine E.GL.skip rfl rfl rfl ?_
                        refine E.GL.run rfl rfl rfl (E.Runs.pick_t rfl rfl rfl) ?_
                        refine E.GL.done ?_
                        refine E.QG.code ?_
                        refine E.CG.cond_t rfl ?_
                        refine E.CG.seq ?_
                        refine E.CG.list ?_
                        refine E.GL.run rfl rfl rfl (E.Runs.assign rfl rfl) ?_
                        refine E.GL.done ?_
                        refine E.QG.code ?_
                        refine E.CG.ret ?_
                        refine E.QG.block_ret ?_
                        refine E.QG.pass_ret ?_
                        refine E.QG.pass_ret ?_
                        refine E.QG.block_ret ?_
                        refine E.QG.pass_ret ?_
                        exact E.QG.result rfl rfl ⟨by rw [chkV_no (fun k => h91 (by
                          obtain ⟨_, _, q1, q2, q3, q4, _⟩ := k.c x (List.mem_of_getElem? hx)
                          intro y hm
                          simp only [List.mem_cons, List.not_mem_nil, or_false] at hm
                          rcases hm with rfl | rfl | rfl | rfl
                          · exact q1
                          · exact q2
                          · exact q3
                          · exact q4))], L⟩
                    · refine E.GL.st rfl rfl rfl (E.ST.call rfl ent57 (E.evc rfl (E.evc rfl (E.evc rfl E.evn))) ((areAll_calls x.f0 a0 k0 0 20 _ false (iff_of_false Bool.false_ne_true h78) (Kd.C_below hx0 L) (hs.s x (List.mem_of_getElem? hx))).mono ?_))
                      rintro e w78 ⟨rfl, l78⟩
                      refine ⟨_, rfl, ?_⟩
                      replace b1 := blk_below b1 l78
                      replace b5 := blk_below b5 l78
                      replace L := below_step L l78
                      refine E.GL.run rfl rfl rfl (E.Runs.not rfl rfl) ?_
                      refine E.GL.run rfl rfl rfl (E.Runs.pick_f rfl rfl rfl) ?_
                      refine E.GL.run rfl rfl rfl (E.Runs.move rfl rfl) ?_
                      refine E.GL.skip rfl rfl rfl ?_
                      refine E.GL.skip rfl rfl rfl ?_
                      refine E.GL.skip rfl rfl rfl ?_
                      refine E.GL.skip rfl rfl rfl ?_
                      refine E.GL.skip rfl rfl rfl ?_
                      refine E.GL.skip rfl rfl rfl ?_
                      refine E.GL.skip rfl rfl rfl ?_
                      refine E.GL.skip rfl rfl rfl ?_
                      refine E.GL.skip rfl rfl rfl ?_
                      refine E.GL.skip rfl rfl rfl ?_
                      refine E.GL.skip rfl rfl rfl ?_
                      refine E.GL.run rfl rfl rfl (E.Runs.pick_t rfl rfl rfl) ?_
                      refine E.GL.run rfl rfl rfl (E.Runs.move rfl rfl) ?_
                      refine E.GL.skip rfl rfl rfl ?_
                      refine E.GL.skip rfl rfl rfl ?_
                      refine E.GL.skip rfl rfl rfl ?_
                      refine E.GL.skip rfl rfl rfl ?_
                      refine E.GL.run rfl rfl rfl (E.Runs.pick_t rfl rfl rfl) ?_
                      refine E.GL.run rfl rfl rfl (E.Runs.move rfl rfl) ?_
                      refine E.GL.skip rfl rfl rfl ?_
                      refine E.GL.skip rfl rfl rfl ?_
                      refine E.GL.skip rfl rfl rfl ?_
                      refine E.GL.skip rfl rfl rfl ?_
                      refine E.GL.run rfl rfl rfl (E.Runs.pick_t rfl rfl rfl) ?_
                      refine E.GL.done ?_
                      refine E.QG.code ?_
                      refine E.CG.cond_t rfl ?_
                      refine E.CG.seq ?_
                      refine E.CG.list ?_
                      refine E.GL.run rfl rfl rfl (E.Runs.assign rfl rfl) ?_
                      refine E.GL.done ?_
                      refine E.QG.code ?_
                      refine E.CG.ret ?_
                      refine E.QG.block_ret ?_
                      refine E.QG.pass_ret ?_
                      refine E.QG.pass_ret ?_
                      refine E.QG.block_ret ?_
                      refine E.QG.pass_ret ?_
                      exact E.QG.result rfl rfl ⟨by rw [chkV_no (fun k => h78 (k.c x (List.mem_of_getElem? hx)).2.1)], L⟩
                · refine E.GL.done ?_
                  refine E.QG.code ?_
                  refine E.CG.cond_f rfl ?_
                  refine E.CG.exit ?_
                  refine E.QG.pass_exit ?_
                  refine E.QG.pass_exit ?_
                  refine E.QG.block_here ?_
                  refine E.QG.code ?_
                  refine E.CG.seq ?_
                  refine E.CG.list ?_
                  refine E.GL.run rfl rfl rfl (E.Runs.assign rfl rfl) ?_
                  refine E.GL.done ?_
                  refine E.QG.code ?_
                  refine E.CG.ret ?_
                  exact E.QG.result rfl rfl ⟨by rw [chkV_yes (⟨by unfold inR at h9; omega, by unfold inR at h9; omega, by omega, by omega, by unfold inR at h53; omega, by unfold inR at h53; omega, h32, h39, h46, all_done hk1 (by omega)⟩)], L⟩
              · refine E.GL.st rfl rfl rfl (E.ST.call rfl ent71 (E.evc rfl (E.evc rfl (E.evc rfl E.evn))) ((within_r V.cs.length 1 4 false (iff_of_false Bool.false_ne_true h53) _).mono ?_))
                rintro e w53 ⟨rfl, l53⟩
                refine ⟨_, rfl, ?_⟩
                replace b1 := blk_below b1 l53
                replace L := below_step L l53
                refine E.GL.run rfl rfl rfl (E.Runs.not rfl rfl) ?_
                refine E.GL.run rfl rfl rfl (E.Runs.pick_f rfl rfl rfl) ?_
                refine E.GL.done ?_
                refine E.QG.code ?_
                refine E.CG.cond_t rfl ?_
                refine E.CG.seq ?_
                refine E.CG.list ?_
                refine E.GL.run rfl rfl rfl (E.Runs.assign rfl rfl) ?_
                refine E.GL.done ?_
                refine E.QG.code ?_
                refine E.CG.ret ?_
                refine E.QG.pass_ret ?_
                exact E.QG.result rfl rfl ⟨by rw [chkV_no (fun k => h53 ⟨by have := k.c1; omega, by have := k.c4; omega⟩)], L⟩
            · refine E.GL.st rfl rfl rfl (E.ST.call rfl ent57 (E.evc rfl (E.evc rfl (E.evc rfl E.evn))) ((areAll_calls V.ts m.C m.c 0 80 _ false (iff_of_false Bool.false_ne_true h46) (hV.below L).ts hs.t).mono ?_))
              rintro e w46 ⟨rfl, l46⟩
              refine ⟨_, rfl, ?_⟩
              replace b1 := blk_below b1 l46
              replace L := below_step L l46
              refine E.GL.run rfl rfl rfl (E.Runs.not rfl rfl) ?_
              refine E.GL.run rfl rfl rfl (E.Runs.pick_f rfl rfl rfl) ?_
              refine E.GL.run rfl rfl rfl (E.Runs.move rfl rfl) ?_
              refine E.GL.skip rfl rfl rfl ?_
              refine E.GL.skip rfl rfl rfl ?_
              refine E.GL.skip rfl rfl rfl ?_
              refine E.GL.skip rfl rfl rfl ?_
              refine E.GL.skip rfl rfl rfl ?_
              refine E.GL.run rfl rfl rfl (E.Runs.pick_t rfl rfl rfl) ?_
              refine E.GL.done ?_
              refine E.QG.code ?_
              refine E.CG.cond_t rfl ?_
              refine E.CG.seq ?_
              refine E.CG.list ?_
              refine E.GL.run rfl rfl rfl (E.Runs.assign rfl rfl) ?_
              refine E.GL.done ?_
              refine E.QG.code ?_
              refine E.CG.ret ?_
              refine E.QG.pass_ret ?_
              exact E.QG.result rfl rfl ⟨by rw [chkV_no (fun k => h46 k.t)], L⟩
          · refine E.GL.st rfl rfl rfl (E.ST.call rfl ent57 (E.evc rfl (E.evc rfl (E.evc rfl E.evn))) ((areAll_calls V.qs m.B m.b 0 80 _ false (iff_of_false Bool.false_ne_true h39) (hV.below L).qs hs.q).mono ?_))
            rintro e w39 ⟨rfl, l39⟩
            refine ⟨_, rfl, ?_⟩
            replace b1 := blk_below b1 l39
            replace L := below_step L l39
            refine E.GL.run rfl rfl rfl (E.Runs.not rfl rfl) ?_
            refine E.GL.run rfl rfl rfl (E.Runs.pick_f rfl rfl rfl) ?_
            refine E.GL.run rfl rfl rfl (E.Runs.move rfl rfl) ?_
            refine E.GL.skip rfl rfl rfl ?_
            refine E.GL.skip rfl rfl rfl ?_
            refine E.GL.skip rfl rfl rfl ?_
            refine E.GL.skip rfl rfl rfl ?_
            refine E.GL.skip rfl rfl rfl ?_
            refine E.GL.run rfl rfl rfl (E.Runs.pick_t rfl rfl rfl) ?_
            refine E.GL.run rfl rfl rfl (E.Runs.move rfl rfl) ?_
            refine E.GL.skip rfl rfl rfl ?_
            refine E.GL.skip rfl rfl rfl ?_
            refine E.GL.skip rfl rfl rfl ?_
            refine E.GL.skip rfl rfl rfl ?_
            refine E.GL.skip rfl rfl rfl ?_
            refine E.GL.run rfl rfl rfl (E.Runs.pick_t rfl rfl rfl) ?_
            refine E.GL.done ?_
            refine E.QG.code ?_
            refine E.CG.cond_t rfl ?_
            refine E.CG.seq ?_
            refine E.CG.list ?_
            refine E.GL.run rfl rfl rfl (E.Runs.assign rfl rfl) ?_
            refine E.GL.done ?_
            refine E.QG.code ?_
            refine E.CG.ret ?_
            refine E.QG.pass_ret ?_
            exact E.QG.result rfl rfl ⟨by rw [chkV_no (fun k => h39 k.q)], L⟩
        · refine E.GL.st rfl rfl rfl (E.ST.call rfl ent57 (E.evc rfl (E.evc rfl (E.evc rfl E.evn))) ((areAll_calls V.ps m.A m.a 1 50 _ false (iff_of_false Bool.false_ne_true h32) (hV.below L).ps hs.p).mono ?_))
          rintro e w32 ⟨rfl, l32⟩
          refine ⟨_, rfl, ?_⟩
          replace b1 := blk_below b1 l32
          replace L := below_step L l32
          refine E.GL.run rfl rfl rfl (E.Runs.not rfl rfl) ?_
          refine E.GL.run rfl rfl rfl (E.Runs.pick_f rfl rfl rfl) ?_
          refine E.GL.run rfl rfl rfl (E.Runs.move rfl rfl) ?_
          refine E.GL.skip rfl rfl rfl ?_
          refine E.GL.skip rfl rfl rfl ?_
          refine E.GL.skip rfl rfl rfl ?_
          refine E.GL.skip rfl rfl rfl ?_
          refine E.GL.skip rfl rfl rfl ?_
          refine E.GL.run rfl rfl rfl (E.Runs.pick_t rfl rfl rfl) ?_
          refine E.GL.run rfl rfl rfl (E.Runs.move rfl rfl) ?_
          refine E.GL.skip rfl rfl rfl ?_
          refine E.GL.skip rfl rfl rfl ?_
          refine E.GL.skip rfl rfl rfl ?_
          refine E.GL.skip rfl rfl rfl ?_
          refine E.GL.skip rfl rfl rfl ?_
          refine E.GL.run rfl rfl rfl (E.Runs.pick_t rfl rfl rfl) ?_
          refine E.GL.run rfl rfl rfl (E.Runs.move rfl rfl) ?_
          refine E.GL.skip rfl rfl rfl ?_
          refine E.GL.skip rfl rfl rfl ?_
          refine E.GL.skip rfl rfl rfl ?_
          refine E.GL.skip rfl rfl rfl ?_
          refine E.GL.skip rfl rfl rfl ?_
          refine E.GL.run rfl rfl rfl (E.Runs.pick_t rfl rfl rfl) ?_
          refine E.GL.done ?_
          refine E.QG.code ?_
          refine E.CG.cond_t rfl ?_
          refine E.CG.seq ?_
          refine E.CG.list ?_
          refine E.GL.run rfl rfl rfl (E.Runs.assign rfl rfl) ?_
          refine E.GL.done ?_
          refine E.QG.code ?_
          refine E.CG.ret ?_
          refine E.QG.pass_ret ?_
          exact E.QG.result rfl rfl ⟨by rw [chkV_no (fun k => h32 k.p)], L⟩
  · refine E.GL.st rfl rfl rfl (E.ST.call rfl ent71 (E.evc rfl (E.evc rfl (E.evc rfl E.evn))) ((within_r V.ps.length 1 3 false (iff_of_false Bool.false_ne_true h9) _).mono ?_))
    rintro e w9 ⟨rfl, l9⟩
    refine ⟨_, rfl, ?_⟩
    replace b1 := blk_below b1 l9
    replace L := below_step L l9
    refine E.GL.run rfl rfl rfl (E.Runs.not rfl rfl) ?_
    refine E.GL.run rfl rfl rfl (E.Runs.move rfl rfl) ?_
    refine E.GL.skip rfl rfl rfl ?_
    refine E.GL.skip rfl rfl rfl ?_
    refine E.GL.skip rfl rfl rfl ?_
    refine E.GL.skip rfl rfl rfl ?_
    refine E.GL.skip rfl rfl rfl ?_
    refine E.GL.skip rfl rfl rfl ?_
    refine E.GL.skip rfl rfl rfl ?_
    refine E.GL.run rfl rfl rfl (E.Runs.pick_t rfl rfl rfl) ?_
    refine E.GL.run rfl rfl rfl (E.Runs.move rfl rfl) ?_
    refine E.GL.skip rfl rfl rfl ?_
    refine E.GL.skip rfl rfl rfl ?_
    refine E.GL.skip rfl rfl rfl ?_
    refine E.GL.skip rfl rfl rfl ?_
    refine E.GL.skip rfl rfl rfl ?_
    refine E.GL.skip rfl rfl rfl ?_
    refine E.GL.skip rfl rfl rfl ?_
    refine E.GL.run rfl rfl rfl (E.Runs.pick_t rfl rfl rfl) ?_
    refine E.GL.run rfl rfl rfl (E.Runs.move rfl rfl) ?_
    refine E.GL.skip rfl rfl rfl ?_
    refine E.GL.skip rfl rfl rfl ?_
    refine E.GL.skip rfl rfl rfl ?_
    refine E.GL.skip rfl rfl rfl ?_
    refine E.GL.run rfl rfl rfl (E.Runs.pick_t rfl rfl rfl) ?_
    refine E.GL.run rfl rfl rfl (E.Runs.move rfl rfl) ?_
    refine E.GL.skip rfl rfl rfl ?_
    refine E.GL.skip rfl rfl rfl ?_
    refine E.GL.skip rfl rfl rfl ?_
    refine E.GL.skip rfl rfl rfl ?_
    refine E.GL.skip rfl rfl rfl ?_
    refine E.GL.run rfl rfl rfl (E.Runs.pick_t rfl rfl rfl) ?_
    refine E.GL.run rfl rfl rfl (E.Runs.move rfl rfl) ?_
    refine E.GL.skip rfl rfl rfl ?_
    refine E.GL.skip rfl rfl rfl ?_
    refine E.GL.skip rfl rfl rfl ?_
    refine E.GL.skip rfl rfl rfl ?_
    refine E.GL.skip rfl rfl rfl ?_
    refine E.GL.run rfl rfl rfl (E.Runs.pick_t rfl rfl rfl) ?_
    refine E.GL.run rfl rfl rfl (E.Runs.move rfl rfl) ?_
    refine E.GL.skip rfl rfl rfl ?_
    refine E.GL.skip rfl rfl rfl ?_
    refine E.GL.skip rfl rfl rfl ?_
    refine E.GL.skip rfl rfl rfl ?_
    refine E.GL.skip rfl rfl rfl ?_
    refine E.GL.run rfl rfl rfl (E.Runs.pick_t rfl rfl rfl) ?_
    refine E.GL.done ?_
    refine E.QG.code ?_
    refine E.CG.cond_t rfl ?_
    refine E.CG.seq ?_
    refine E.CG.list ?_
    refine E.GL.run rfl rfl rfl (E.Runs.assign rfl rfl) ?_
    refine E.GL.done ?_
    refine E.QG.code ?_
    refine E.CG.ret ?_
    refine E.QG.pass_ret ?_
    exact E.QG.result rfl rfl ⟨by rw [chkV_no (fun k => h9 ⟨by have := k.n1; omega, by have := k.n3; omega⟩)], L⟩

end Go.Proofs.Ytiplichdhcmjdaa.T
namespace Go.Proofs.Ytiplichdhcmjdaa.T
open Go.RowKit Go.Proofs.YtiplichdhcmjdaaW.PrintWords Go.Proofs.YtiplichdhcmjdaaW.PrintMore
open Go.Proofs.Ytiplichdhcmjdaa.P
set_option linter.unusedVariables false
set_option linter.unusedSimpArgs false

def sumL (l : List Int) : Int := pre (fun i => l.getD i 0) l.length
/-- What a till should have. -/
def due (V : Ev) (c : S40) (b : Bl) : Int := c.f4 + b.worth V.ps
def flK (c : S40) (b : Bl) : Int := if b = bl c.f0 then 0 else 1
def flM (V : Ev) (c : S40) (b : Bl) : Int := if c.f5 = due V c b then 0 else 1
/-- The flaws of a till. -/
def fl (V : Ev) (c : S40) (b : Bl) : Int := flK c b + flM V c b
theorem fl_01 (V : Ev) (c : S40) (b : Bl) : 0 ≤ fl V c b ∧ fl V c b ≤ 2 := by unfold fl flK flM; split <;> split <;> omega
theorem sumL_bl {l : List Int} (h3 : l.length ≤ 3) : sumL l = (bl l).sum := by
  unfold sumL bl Bl.sum
  rcases l with _ | ⟨l0, _ | ⟨l1, _ | ⟨l2, _ | ⟨l3, l⟩⟩⟩⟩
  · simp [pre]
  · simp [pre]
  · simp [pre]
  · simp [pre]
  · simp at h3
/-- A till's field. -/
theorem till_field {w w' : World} {ad : Addr} {i : Nat} {l : List Value} (X : ∀ j u, l[j]? = some u → w.cell? ((ad.add (i * 6)).add j) = some u) (L : Below w.heap.size w w') (j : Nat) {u : Value} (hu : l[j]? = some u) : w'.cell? (E.onA (ad.add (i * 6)) j) = some u := by
  rw [← E.add_onA]
  exact pw_cell_below L (X j u hu)
set_option maxRecDepth 100000 in
set_option maxHeartbeats 8000000 in

theorem same_calls (l k : List Int) (A A1 : Option Addr) (c c1 : Nat) (w : World) (r : Bool) (hb : r = true ↔ l = k) (h1 : Kd.C kI w A l.length l) (h2 : Kd.C kI w A1 k.length k) (hn : l.length ≤ 1000000) :
    Calls Try.prog 26 #[.slice A l.length c, .slice A1 k.length c1] w fun e w' => e = .returned (.bool r) ∧ Below w.heap.size w w' := by
  have hu3 := Try.underlying3
  have hu22 := Try.underlying22
  obtain ⟨z3, o3⟩ := info_some info3s (by decide)
  refine E.enter (N := 26) Try.func26 rfl Try.ntmps26 (args := [.slice A l.length c, .slice A1 k.length c1]) (by simp) ?_
  have L := Below.refl w.heap.size w
  refine E.CG.seq ?_
  refine E.CG.list ?_
  refine E.GL.run rfl rfl rfl (E.Runs.assign rfl rfl) ?_
  refine E.GL.done ?_
  refine E.QG.code ?_
  refine E.CG.seq ?_
  refine E.CG.seq ?_
  refine E.CG.list ?_
  refine E.GL.run rfl rfl rfl (E.Runs.move rfl rfl) ?_
  refine E.GL.run rfl rfl rfl (E.Runs.len rfl rfl hu22) ?_
  refine E.GL.run rfl rfl rfl (E.Runs.move rfl rfl) ?_
  refine E.GL.run rfl rfl rfl (E.Runs.len rfl rfl hu22) ?_
  refine E.GL.cmpn rfl rfl rfl (fun _ h => (E.Runs.neq rfl rfl rfl h)) (fun h10 => ?_) (fun h10 => ?_)
  · refine E.GL.done ?_
    refine E.QG.code ?_
    refine E.CG.cond_t rfl ?_
    refine E.CG.seq ?_
    refine E.CG.list ?_
    refine E.GL.run rfl rfl rfl (E.Runs.assign rfl rfl) ?_
    refine E.GL.done ?_
    refine E.QG.code ?_
    refine E.CG.ret ?_
    refine E.QG.pass_ret ?_
    exact E.QG.result rfl rfl ⟨by rw [bool_no hb (fun e => h10 (by rw [e]))], L⟩
  · refine E.GL.done ?_
    refine E.QG.code ?_
    refine E.CG.cond_f rfl ?_
    refine E.CG.skip ?_
    refine E.QG.code ?_
    refine E.CG.seq ?_
    refine E.CG.seq ?_
    refine E.CG.list ?_
    refine E.GL.run rfl rfl rfl (E.Runs.assign rfl rfl) ?_
    refine E.GL.done ?_
    refine E.QG.code ?_
    refine E.CG.block ?_
    have s4_L := L
    refine E.CG.loop (fun (i : Nat) => [(0, .slice A l.length c), (1, .slice A1 k.length c1), (5, .int .i64 i)]) (fun i w' => i ≤ l.length ∧ Below w.heap.size w w' ∧ ∀ j, j < i → l[j]? = k[j]?) (fun i => l.length - i) 0 (E.subc rfl (E.subc rfl (E.subc rfl E.subn))) ⟨Nat.zero_le _, L, fun j hj => by omega⟩ ?_
    rintro i w4 ⟨hi, L, hs⟩
    refine E.CG.seq ?_
    refine E.CG.seq ?_
    refine E.CG.list ?_
    refine E.GL.run rfl rfl rfl (E.Runs.move rfl rfl) ?_
    refine E.GL.run rfl rfl rfl (E.Runs.move rfl rfl) ?_
    refine E.GL.run rfl rfl rfl (E.Runs.len rfl rfl hu22) ?_
    refine E.GL.cmp rfl rfl rfl (fun _ h => (E.Runs.lss rfl rfl rfl h)) (fun h14 => ?_) (fun h14 => ?_)
    · obtain ⟨x, hx⟩ := get_ex (show i < l.length by omega)
      obtain ⟨ad, eA, X⟩ := int_at h1 hx
      obtain ⟨y, hy⟩ := get_ex (show i < k.length by omega)
      obtain ⟨ae, eB, Y⟩ := int_at h2 hy
      have hik : (i : Int) < l.length := by omega
      have hik2 : (i : Int) < k.length := by omega
      refine E.GL.done ?_
      refine E.QG.code ?_
      refine E.CG.cond_t rfl ?_
      refine E.CG.skip ?_
      refine E.QG.code ?_
      refine E.CG.seq ?_
      refine E.CG.block ?_
      refine E.CG.seq ?_
      refine E.CG.quietF (by kernel_rfl) rfl (by kernel_rfl) (by kernel_rfl) ?_
      refine E.GQ.run rfl rfl rfl (E.Runs.move rfl rfl) ?_
      refine E.GQ.run rfl rfl rfl (E.Runs.move rfl rfl) ?_
      refine E.GQ.run rfl rfl rfl (E.Runs.indexAddrA rfl rfl rfl hu22 (by assumption) (by assumption) (by assumption) (by first | rfl | assumption) rfl) ?_
      refine E.GQ.run rfl rfl rfl (E.Runs.load rfl rfl hu3 (by first | assumption | exact E.blkc (by assumption) rfl | exact pw_cell_below L (by assumption))) ?_
      refine E.GQ.run rfl rfl rfl (E.Runs.move rfl rfl) ?_
      refine E.GQ.run rfl rfl rfl (E.Runs.move rfl rfl) ?_
      refine E.GQ.run rfl rfl rfl (E.Runs.indexAddrA rfl rfl rfl hu22 (by assumption) (by assumption) (by assumption) (by first | rfl | assumption) rfl) ?_
      refine E.GQ.run rfl rfl rfl (E.Runs.load rfl rfl hu3 (by first | assumption | exact E.blkc (by assumption) rfl | exact pw_cell_below L (by assumption))) ?_
      refine E.GQ.cmpn rfl rfl rfl (fun _ h => (E.Runs.neq rfl rfl rfl h)) (fun h25 => ?_) (fun h25 => ?_)
      · refine E.GQ.doneB fun v6 lD => ?_
        replace L := below_step L lD
        have lD6 := lD
        clear lD
        refine E.QG.code ?_
        refine E.CG.cond_t rfl ?_
        refine E.CG.seq ?_
        refine E.CG.list ?_
        refine E.GL.run rfl rfl rfl (E.Runs.assign rfl rfl) ?_
        refine E.GL.done ?_
        refine E.QG.code ?_
        refine E.CG.ret ?_
        refine E.QG.block_ret ?_
        refine E.QG.pass_ret ?_
        refine E.QG.pass_ret ?_
        refine E.QG.block_ret ?_
        refine E.QG.pass_ret ?_
        exact E.QG.result rfl rfl ⟨by rw [bool_no hb (fun e => by subst e; rw [hx] at hy; cases hy; exact h25 rfl)], L⟩
      · refine E.GQ.doneB fun v6 lD => ?_
        replace L := below_step L lD
        have lD6 := lD
        clear lD
        refine E.QG.code ?_
        refine E.CG.cond_f rfl ?_
        refine E.CG.skip ?_
        refine E.QG.block_normal ?_
        refine E.QG.code ?_
        refine E.CG.list ?_
        refine E.GL.run rfl rfl rfl (E.Runs.move rfl rfl) ?_
        refine E.GL.run rfl rfl rfl (E.Runs.add rfl rfl rfl (IntWalk.i64_in _ (by omega))) ?_
        refine E.GL.run rfl rfl rfl (E.Runs.assign rfl rfl) ?_
        refine E.GL.done ?_
        exact E.QG.round (i + 1) (E.subc rfl (E.subc rfl (E.subc rfl E.subn))) ⟨by omega, L, fun j hj => (Nat.lt_or_ge j i).elim (hs j) (fun q => (show j = i by omega) ▸ (by rw [hx, hy, h25]))⟩ (by omega)
    · refine E.GL.done ?_
      refine E.QG.code ?_
      refine E.CG.cond_f rfl ?_
      refine E.CG.exit ?_
      refine E.QG.pass_exit ?_
      refine E.QG.pass_exit ?_
      refine E.QG.block_here ?_
      refine E.QG.code ?_
      refine E.CG.seq ?_
      refine E.CG.list ?_
      refine E.GL.run rfl rfl rfl (E.Runs.assign rfl rfl) ?_
      refine E.GL.done ?_
      refine E.QG.code ?_
      refine E.CG.ret ?_
      exact E.QG.result rfl rfl ⟨by rw [hb.mpr (List.ext_getElem? fun j => (Nat.lt_or_ge j i).elim (hs j) (fun q => by rw [List.getElem?_eq_none (by omega), List.getElem?_eq_none (by omega)]))], L⟩

set_option maxRecDepth 100000 in
set_option maxHeartbeats 8000000 in

theorem in_calls (l : List Int) (A : Option Addr) (c : Nat) (n : Int) (w : World) (r : Bool) (hb : r = true ↔ n ∈ l) (h : Kd.C kI w A l.length l) (hn : l.length ≤ 1000000) :
    Calls Try.prog 30 #[.slice A l.length c, .int .i64 n] w fun e w' => e = .returned (.bool r) ∧ Below w.heap.size w w' := by
  have hu3 := Try.underlying3
  have hu22 := Try.underlying22
  obtain ⟨z3, o3⟩ := info_some info3s (by decide)
  refine E.enter (N := 18) Try.func30 rfl Try.ntmps30 (args := [.slice A l.length c, .int .i64 n]) (by simp) ?_
  have L := Below.refl w.heap.size w
  refine E.CG.seq ?_
  refine E.CG.list ?_
  refine E.GL.run rfl rfl rfl (E.Runs.assign rfl rfl) ?_
  refine E.GL.done ?_
  refine E.QG.code ?_
  refine E.CG.seq ?_
  refine E.CG.seq ?_
  refine E.CG.list ?_
  refine E.GL.run rfl rfl rfl (E.Runs.assign rfl rfl) ?_
  refine E.GL.done ?_
  refine E.QG.code ?_
  refine E.CG.block ?_
  have s2_L := L
  refine E.CG.loop (fun (i : Nat) => [(0, .slice A l.length c), (1, .int .i64 n), (5, .int .i64 i)]) (fun i w' => i ≤ l.length ∧ Below w.heap.size w w' ∧ ∀ k, k < i → ∀ x, l[k]? = some x → x ≠ n) (fun i => l.length - i) 0 (E.subc rfl (E.subc rfl (E.subc rfl E.subn))) ⟨Nat.zero_le _, L, fun k hk => by omega⟩ ?_
  rintro i w2 ⟨hi, L, hok⟩
  refine E.CG.seq ?_
  refine E.CG.seq ?_
  refine E.CG.list ?_
  refine E.GL.run rfl rfl rfl (E.Runs.move rfl rfl) ?_
  refine E.GL.run rfl rfl rfl (E.Runs.move rfl rfl) ?_
  refine E.GL.run rfl rfl rfl (E.Runs.len rfl rfl hu22) ?_
  refine E.GL.cmp rfl rfl rfl (fun _ h => (E.Runs.lss rfl rfl rfl h)) (fun h9 => ?_) (fun h9 => ?_)
  · obtain ⟨x, hx⟩ := get_ex (show i < l.length by omega)
    obtain ⟨ad, eA, X⟩ := int_at h hx
    refine E.GL.done ?_
    refine E.QG.code ?_
    refine E.CG.cond_t rfl ?_
    refine E.CG.skip ?_
    refine E.QG.code ?_
    refine E.CG.seq ?_
    refine E.CG.block ?_
    refine E.CG.seq ?_
    refine E.CG.list ?_
    refine E.GL.run rfl rfl rfl (E.Runs.move rfl rfl) ?_
    refine E.GL.run rfl rfl rfl (E.Runs.move rfl rfl) ?_
    refine E.GL.run rfl rfl rfl (E.Runs.indexAddrA (i := i) rfl rfl rfl hu22 z3 o3 (by omega) eA rfl) ?_
    refine E.GL.run rfl rfl rfl (E.Runs.load rfl rfl hu3 (pw_cell_below L X)) ?_
    refine E.GL.run rfl rfl rfl (E.Runs.move rfl rfl) ?_
    refine E.GL.cmp rfl rfl rfl (fun _ h => (E.Runs.eql rfl rfl rfl h)) (fun h17 => ?_) (fun h17 => ?_)
    · refine E.GL.done ?_
      refine E.QG.code ?_
      refine E.CG.cond_t rfl ?_
      refine E.CG.seq ?_
      refine E.CG.list ?_
      refine E.GL.run rfl rfl rfl (E.Runs.assign rfl rfl) ?_
      refine E.GL.done ?_
      refine E.QG.code ?_
      refine E.CG.ret ?_
      refine E.QG.block_ret ?_
      refine E.QG.pass_ret ?_
      refine E.QG.pass_ret ?_
      refine E.QG.block_ret ?_
      refine E.QG.pass_ret ?_
      exact E.QG.result rfl rfl ⟨by rw [hb.mpr (h17 ▸ List.mem_of_getElem? hx)], L⟩
    · refine E.GL.done ?_
      refine E.QG.code ?_
      refine E.CG.cond_f rfl ?_
      refine E.CG.skip ?_
      refine E.QG.block_normal ?_
      refine E.QG.code ?_
      refine E.CG.list ?_
      refine E.GL.run rfl rfl rfl (E.Runs.move rfl rfl) ?_
      refine E.GL.run rfl rfl rfl (E.Runs.add rfl rfl rfl (IntWalk.i64_in _ (by omega))) ?_
      refine E.GL.run rfl rfl rfl (E.Runs.assign rfl rfl) ?_
      refine E.GL.done ?_
      exact E.QG.round (i + 1) (E.subc rfl (E.subc rfl (E.subc rfl E.subn))) ⟨by omega, L, all_more hok hx h17⟩ (by omega)
  · refine E.GL.done ?_
    refine E.QG.code ?_
    refine E.CG.cond_f rfl ?_
    refine E.CG.exit ?_
    refine E.QG.pass_exit ?_
    refine E.QG.pass_exit ?_
    refine E.QG.block_here ?_
    refine E.QG.code ?_
    refine E.CG.seq ?_
    refine E.CG.list ?_
    refine E.GL.run rfl rfl rfl (E.Runs.assign rfl rfl) ?_
    refine E.GL.done ?_
    refine E.QG.code ?_
    refine E.CG.ret ?_
    exact E.QG.result rfl rfl ⟨by rw [bool_no hb (fun hm => all_done hok (by omega) n hm rfl)], L⟩

end Go.Proofs.Ytiplichdhcmjdaa.T
namespace Go.Proofs.Ytiplichdhcmjdaa.T
open Go.RowKit Go.Proofs.YtiplichdhcmjdaaW.PrintWords Go.Proofs.YtiplichdhcmjdaaW.PrintMore
open Go.Proofs.Ytiplichdhcmjdaa.P
set_option linter.unusedVariables false
set_option linter.unusedSimpArgs false
theorem over_blk {α : Type} {d : Kd α} {e base g t : Nat} {w w1 : World} {v : Value} {xs : List α} {cs : Array Value} (h : Kd.R d e w base (fun _ => True) v xs) (hb : w.heap[g]? = some (.cells cs t (0, 0))) (hne : e ≠ t) (hE : d.E = []) (hg : w.grownBy w1 (some g)) : Kd.R d e w1 base (fun _ => True) v xs :=
  Kd.R_grown1 h hE hg (Kd.R_ne h hb hne)
def firstP (p : Nat → Bool) (n : Nat) : Option Nat := (List.range n).find? p
theorem firstP_some {p : Nat → Bool} {n i : Nat} (hi : i < n) (h : p i = true) (k : ∀ j, j < i → p j = false) : firstP p n = some i := by
  unfold firstP
  rw [List.find?_range_eq_some]
  exact ⟨h, List.mem_range.mpr hi, fun j hj => by simp [k j hj]⟩
theorem firstP_none {p : Nat → Bool} {n : Nat} (k : ∀ j, j < n → p j = false) : firstP p n = none := by
  unfold firstP
  rw [List.find?_eq_none]
  intro x hx
  rw [k x (List.mem_range.mp hx)]
  exact Bool.false_ne_true
def ct (V : Ev) (i : Nat) : S40 := V.cs.getD i P.z40
theorem ct_of {V : Ev} {i : Nat} {c : S40} (h : V.cs[i]? = some c) : ct V i = c := by unfold ct; rw [List.getD_eq_getElem?_getD, h]; rfl
/-- All tickets of the first tills, as they say. -/
def allB (V : Ev) : Nat → Bl
  | 0 => Bl.z
  | i + 1 => (allB V i).add (bl (ct V i).f0)
theorem allB_small {V : Ev} (ok : VOk V) : ∀ {i : Nat}, i ≤ V.cs.length → SmallB (allB V i) (i * 20)
  | 0, _ => by
    intro j hj
    unfold allB Bl.z Bl.get
    by_cases h0 : j = 0
    · simp [h0]
    · by_cases h1 : j = 1 <;> simp [h0, h1]
  | i + 1, hi => by
    intro j hj
    obtain ⟨c, hc⟩ := get_ex (show i < V.cs.length by omega)
    have h1 := allB_small ok (i := i) (by omega) j hj
    have h2 := small_bl (l := c.f0) (m := 20) (ok.c c (List.mem_of_getElem? hc)).2.1 (by decide) j hj
    rw [allB, ct_of hc, get_add]
    push_cast
    omega
def badTill (V : Ev) (i : Nat) : Bool := decide ((bl (ct V i).f0).sum ≠ rl (ct V i) ∨ (ct V i).f5 ≠ due V (ct V i) (bl (ct V i).f0))
def badSeat (V : Ev) (s : Nat) : Bool := decide ((allB V V.cs.length).get s ≠ V.qs.getD s 0)
def badStub (V : Ev) (s : Nat) : Bool := decide (V.qs.getD s 0 < V.ts.getD s 0)
def partsV (V : Ev) : Int × Int := match firstP (badTill V) V.cs.length with
  | some i => (if (bl (ct V i).f0).sum ≠ rl (ct V i) then 1 else 2, i)
  | none => match firstP (badSeat V) V.ps.length with
    | some s => (3, s)
    | none => match firstP (badStub V) V.ps.length with
      | some s => (4, s)
      | none => (0, -1)
def partsA (V : Ev) : Int × Int := if VOk V then partsV V else (0, 0)
theorem partsV_1 {V : Ev} {i : Nat} {c : S40} (hc : V.cs[i]? = some c) (k : ∀ j, j < i → badTill V j = false) (h : (bl c.f0).sum ≠ rl c) : partsV V = (1, (i : Int)) := by
  have hl := (List.getElem?_eq_some_iff.1 hc).1
  unfold partsV
  rw [firstP_some hl (by unfold badTill; rw [ct_of hc]; simp [h]) k]
  simp [ct_of hc, h]
theorem partsV_2 {V : Ev} {i : Nat} {c : S40} (hc : V.cs[i]? = some c) (k : ∀ j, j < i → badTill V j = false) (h : (bl c.f0).sum = rl c) (h2 : c.f5 ≠ due V c (bl c.f0)) : partsV V = (2, (i : Int)) := by
  have hl := (List.getElem?_eq_some_iff.1 hc).1
  unfold partsV
  rw [firstP_some hl (by unfold badTill; rw [ct_of hc]; simp [h2]) k]
  simp [ct_of hc, h]
theorem badTill_no {V : Ev} {i : Nat} {c : S40} (hc : V.cs[i]? = some c) (h : (bl c.f0).sum = rl c) (h2 : c.f5 = due V c (bl c.f0)) : badTill V i = false := by
  unfold badTill
  rw [ct_of hc]
  simp [h, h2]
theorem partsV_3 {V : Ev} {s : Nat} (k : ∀ j, j < V.cs.length → badTill V j = false) (hs : s < V.ps.length) (k2 : ∀ j, j < s → badSeat V j = false) (h : badSeat V s = true) : partsV V = (3, (s : Int)) := by
  unfold partsV
  rw [firstP_none k, firstP_some hs h k2]
theorem partsV_4 {V : Ev} {s : Nat} (k : ∀ j, j < V.cs.length → badTill V j = false) (hs : s < V.ps.length) (k2 : ∀ j, j < V.ps.length → badSeat V j = false) (k3 : ∀ j, j < s → badStub V j = false) (h : badStub V s = true) : partsV V = (4, (s : Int)) := by
  unfold partsV
  rw [firstP_none k, firstP_none k2, firstP_some hs h k3]
theorem partsV_0 {V : Ev} (k : ∀ j, j < V.cs.length → badTill V j = false) (k2 : ∀ j, j < V.ps.length → badSeat V j = false) (k3 : ∀ j, j < V.ps.length → badStub V j = false) : partsV V = (0, -1) := by
  unfold partsV
  rw [firstP_none k, firstP_none k2, firstP_none k3]
theorem upto_more {p : Nat → Bool} {i : Nat} (k : ∀ j, j < i → p j = false) (h : p i = false) : ∀ j, j < i + 1 → p j = false := fun j hj => by
  by_cases e : j = i
  · rw [e]; exact h
  · exact k j (by omega)
theorem partsA_yes {V : Ev} (h : VOk V) : partsA V = partsV V := by unfold partsA; rw [if_pos h]
theorem partsA_no {V : Ev} (h : ¬ VOk V) : partsA V = (0, 0) := by unfold partsA; rw [if_neg h]
end Go.Proofs.Ytiplichdhcmjdaa.T
namespace Go.Proofs.Ytiplichdhcmjdaa.T
open Go.RowKit Go.Proofs.YtiplichdhcmjdaaW.PrintWords Go.Proofs.YtiplichdhcmjdaaW.PrintMore
open Go.Proofs.Ytiplichdhcmjdaa.P
set_option linter.unusedVariables false
set_option linter.unusedSimpArgs false
/-- A choice: a bill and its flaws. -/
structure S69 where
  f0 : Int
  f1 : Int
  f2 : Int
  f3 : Int
def z69 : S69 := ⟨0, 0, 0, 0⟩
def S69.b (x : S69) : Bl := ⟨x.f0, x.f1, x.f2⟩
def mk69 (b : Bl) (n : Int) : S69 := ⟨b.f0, b.f1, b.f2, n⟩
def k69 : Kd S69 := Kd.iso (Kd.pair (Kd.int .i64) (Kd.pair (Kd.int .i64) (Kd.pair (Kd.int .i64) (Kd.int .i64)))) (fun x : S69 => (x.f0, x.f1, x.f2, x.f3))
theorem k69_open {w : World} {x : S69} {cs : List Value} (h : k69.K w x cs) : cs = [.int .i64 x.f0, .int .i64 x.f1, .int .i64 x.f2, .int .i64 x.f3] := by
  obtain ⟨_, _, rfl, rfl, ⟨_, _, rfl, rfl, ⟨_, _, rfl, rfl, rfl⟩⟩⟩ := h
  exact rfl
theorem k69_mkM (w : World) (base : Nat) (ok : Nat → Prop) (x : S69) : k69.M w base ok x [.int .i64 x.f0, .int .i64 x.f1, .int .i64 x.f2, .int .i64 x.f3] := ⟨[.int .i64 x.f0], [.int .i64 x.f1, .int .i64 x.f2, .int .i64 x.f3], rfl, rfl, ⟨[.int .i64 x.f1], [.int .i64 x.f2, .int .i64 x.f3], rfl, rfl, ⟨[.int .i64 x.f2], [.int .i64 x.f3], rfl, rfl, rfl⟩⟩⟩
theorem ch_at {w : World} {A : Option Addr} {n : Nat} {l : List S69} (h : Kd.C k69 w A n l) {i : Nat} {x : S69} (hi : l[i]? = some x) : ∃ ad, A = some ad ∧ ∀ j u, ([.int .i64 x.f0, .int .i64 x.f1, .int .i64 x.f2, .int .i64 x.f3] : List Value)[j]? = some u → w.cell? ((ad.add (i * 4)).add j) = some u := by
  have hil : i < l.length := (List.getElem?_eq_some_iff.1 hi).1
  have hn := Kd.C_len h
  obtain ⟨ad, c, e, _, hK, hc0⟩ := Kd.C_get h x (i : Int) (by omega) (by omega)
  have hx : l.getD i x = x := by simp [List.getD_eq_getElem?_getD, hi]
  rw [Int.toNat_natCast, hx] at hK
  rw [Int.toNat_natCast] at hc0
  obtain rfl := k69_open hK
  refine ⟨ad, e, fun j u hu => ?_⟩
  have := hc0 j u hu
  rw [← this]
  congr 1
  exact add_add _ _ _
def mkC (V : Ev) (c : S40) (b : Bl) : S69 := mk69 b (fl V c b)
theorem mkC_b (V : Ev) (c : S40) (b : Bl) : (mkC V c b).b = b := rfl
theorem mkC_f (V : Ev) (c : S40) (b : Bl) : (mkC V c b).f3 = fl V c b := rfl
/-- All that a till can have sold, in the program's order; k shows are still to come behind this one. -/
def chR (V : Ev) (c : S40) (n : Nat) : Nat → Bl → Nat → List S69
  | 0, b, left => [mkC V c (b.set (n - 1) left)]
  | k + 1, b, left => (List.range (left + 1)).flatMap (fun (j : Nat) => chR V c n k (b.set (n - 1 - (k + 1)) j) (left - j))
def chs (V : Ev) (c : S40) : List S69 := chR V c V.ps.length (V.ps.length - 1) Bl.z (rl c).toNat
/-- A way to sell a roll. -/
def Way (n : Nat) (r : Int) (b : Bl) : Prop := 0 ≤ b.f0 ∧ 0 ≤ b.f1 ∧ 0 ≤ b.f2 ∧ (n ≤ 1 → b.f1 = 0) ∧ (n ≤ 2 → b.f2 = 0) ∧ b.sum = r
theorem mem_chs {V : Ev} {c : S40} (h1 : 1 ≤ V.ps.length) (h3 : V.ps.length ≤ 3) (hr : 0 ≤ rl c) {x : S69} : x ∈ chs V c ↔ ∃ b, Way V.ps.length (rl c) b ∧ x = mkC V c b := by
  unfold chs
  generalize hn : V.ps.length = n at h1 h3 ⊢
  obtain ⟨r, hr'⟩ : ∃ r : Nat, rl c = r := ⟨(rl c).toNat, by omega⟩
  rw [hr', Int.toNat_natCast]
  have hcase : n = 1 ∨ n = 2 ∨ n = 3 := by omega
  rcases hcase with rfl | rfl | rfl
  · simp only [chR, List.mem_singleton, Nat.sub_self]
    constructor
    · intro h
      exact ⟨_, ⟨by simp [Bl.set, Bl.z], by simp [Bl.set, Bl.z], by simp [Bl.set, Bl.z], fun _ => rfl, fun _ => rfl, by simp [Bl.set, Bl.z, Bl.sum]⟩, h⟩
    · rintro ⟨b, ⟨q0, q1, q2, q3, q4, q5⟩, rfl⟩
      congr 1
      have e1 := q3 (by omega); have e2 := q4 (by omega)
      unfold Bl.sum at q5
      exact Bl.ext' (by simp [Bl.set, Bl.z]; omega) (by simp [Bl.set, Bl.z]; omega) (by simp [Bl.set, Bl.z]; omega)
  · show x ∈ (List.range (r + 1)).flatMap (fun (j : Nat) => [mkC V c ((Bl.z.set 0 j).set 1 (r - j : Nat))]) ↔ _
    simp only [List.mem_flatMap, List.mem_range, List.mem_singleton]
    constructor
    · rintro ⟨j, hj, h⟩
      exact ⟨_, ⟨by simp [Bl.set, Bl.z], by simp [Bl.set, Bl.z], by simp [Bl.set, Bl.z], fun h => by omega, fun _ => rfl, by simp [Bl.set, Bl.z, Bl.sum]; omega⟩, h⟩
    · rintro ⟨b, ⟨q0, q1, q2, q3, q4, q5⟩, rfl⟩
      have e2 := q4 (by omega)
      unfold Bl.sum at q5
      refine ⟨b.f0.toNat, by omega, ?_⟩
      congr 1
      exact Bl.ext' (by simp [Bl.set, Bl.z]; omega) (by simp [Bl.set, Bl.z]; omega) (by simp [Bl.set, Bl.z]; omega)
  · show x ∈ (List.range (r + 1)).flatMap (fun (j : Nat) => (List.range (r - j + 1)).flatMap (fun (i : Nat) => [mkC V c (((Bl.z.set 0 j).set 1 i).set 2 (r - j - i : Nat))])) ↔ _
    simp only [List.mem_flatMap, List.mem_range, List.mem_singleton]
    constructor
    · rintro ⟨j, hj, i, hi, h⟩
      exact ⟨_, ⟨by simp [Bl.set, Bl.z], by simp [Bl.set, Bl.z], by simp [Bl.set, Bl.z], fun h => by omega, fun h => by omega, by simp [Bl.set, Bl.z, Bl.sum]; omega⟩, h⟩
    · rintro ⟨b, ⟨q0, q1, q2, q3, q4, q5⟩, rfl⟩
      unfold Bl.sum at q5
      refine ⟨b.f0.toNat, by omega, b.f1.toNat, by omega, ?_⟩
      congr 1
      exact Bl.ext' (by simp [Bl.set, Bl.z]; omega) (by simp [Bl.set, Bl.z]; omega) (by simp [Bl.set, Bl.z]; omega)
/-- The least number of which something holds. -/
def Mn (p : Int → Prop) : Option Int → Prop
  | none => ∀ n, ¬ p n
  | some m => p m ∧ ∀ n, p n → m ≤ n
theorem Mn.congr {p q : Int → Prop} {r : Option Int} (h : Mn p r) (e : ∀ n, p n ↔ q n) : Mn q r := by
  cases r with
  | none => exact fun n k => h n ((e n).mpr k)
  | some m => exact ⟨(e m).mp h.1, fun n k => h.2 n ((e n).mpr k)⟩
theorem Mn.add {p : Int → Prop} {r : Option Int} (h : Mn p r) (x : Int) : Mn (fun n => p n ∨ n = x) (match r with | none => some x | some m => if x < m then some x else some m) := by
  cases r with
  | none => exact ⟨.inr rfl, fun n k => k.elim (fun q => absurd q (h n)) (fun q => by omega)⟩
  | some m =>
    show Mn _ (if x < m then some x else some m)
    split
    · exact ⟨.inr rfl, fun n k => k.elim (fun q => by have := h.2 n q; omega) (fun q => by omega)⟩
    · exact ⟨.inl h.1, fun n k => k.elim (h.2 n) (fun q => by omega)⟩
theorem Mn.one {p : Int → Prop} {r s : Option Int} (h : Mn p r) (k : Mn p s) : r = s := by
  cases r with
  | none => cases s with
    | none => rfl
    | some m => exact absurd k.1 (h m)
  | some m => cases s with
    | none => exact absurd h.1 (k m)
    | some m' => have := h.2 _ k.1; have := k.2 _ h.1; exact congrArg some (by omega)
theorem Mn.is {p : Int → Prop} {r : Option Int} (h : Mn p r) {n : Int} (hn : p n) : ∃ m, r = some m ∧ m ≤ n ∧ p m := by
  cases r with
  | none => exact absurd hn (h n)
  | some m => exact ⟨m, rfl, h.2 n hn, h.1⟩
/-! ### Truths -/
theorem Bl.add_assoc (a b c : Bl) : (a.add b).add c = a.add (b.add c) := by unfold Bl.add; simp [Int.add_assoc]
theorem Bl.z_add (a : Bl) : Bl.z.add a = a := by cases a; simp [Bl.add, Bl.z]
theorem Bl.add_z (a : Bl) : a.add Bl.z = a := by cases a; simp [Bl.add, Bl.z]
theorem Bl.add_comm (a b : Bl) : a.add b = b.add a := by unfold Bl.add; simp [Int.add_comm]
def sumT : List Bl → Bl
  | [] => Bl.z
  | b :: t => b.add (sumT t)
theorem sumT_append (s t : List Bl) : sumT (s ++ t) = (sumT s).add (sumT t) := by
  induction s with
  | nil => rw [List.nil_append]; exact (Bl.z_add _).symm
  | cons b s ih => rw [List.cons_append, sumT, sumT, ih, Bl.add_assoc]
/-- The flaws of tickets of the tills from i on. -/
def flT (V : Ev) : Nat → List Bl → Int
  | _, [] => 0
  | i, b :: t => fl V (ct V i) b + flT V (i + 1) t
theorem flT_append (V : Ev) (s t : List Bl) : ∀ i, flT V i (s ++ t) = flT V i s + flT V (i + s.length) t := by
  induction s with
  | nil => intro i; simp [flT]
  | cons b s ih => intro i; rw [List.cons_append, flT, flT, ih, List.length_cons, show i + 1 + s.length = i + (s.length + 1) by omega]; omega
theorem flT_01 (V : Ev) : ∀ (t : List Bl) (i : Nat), 0 ≤ flT V i t ∧ flT V i t ≤ 2 * t.length
  | [], i => by simp [flT]
  | b :: t, i => by
    have h1 := flT_01 V t (i + 1)
    have h2 := fl_01 V (ct V i) b
    rw [flT, List.length_cons]
    push_cast
    omega
/-- Ways of the tills from i on. -/
def Ws (V : Ev) : Nat → List Bl → Prop
  | _, [] => True
  | i, b :: t => Way V.ps.length (rl (ct V i)) b ∧ Ws V (i + 1) t
theorem Ws_append (V : Ev) (s t : List Bl) : ∀ i, Ws V i (s ++ t) ↔ Ws V i s ∧ Ws V (i + s.length) t := by
  induction s with
  | nil => intro i; simp [Ws]
  | cons b s ih => intro i; rw [List.cons_append, Ws, Ws, ih, List.length_cons, show i + 1 + s.length = i + (s.length + 1) by omega, and_assoc]
theorem Ws_nonneg {V : Ev} : ∀ {t : List Bl} {i : Nat}, Ws V i t → 0 ≤ (sumT t).f0 ∧ 0 ≤ (sumT t).f1 ∧ 0 ≤ (sumT t).f2
  | [], i, _ => by simp [sumT, Bl.z]
  | b :: t, i, h => by
    have h1 := Ws_nonneg h.2
    obtain ⟨q0, q1, q2, _⟩ := h.1
    unfold sumT Bl.add
    simp only
    omega
theorem Ws_get {V : Ev} : ∀ {t : List Bl} {i j : Nat} {b : Bl}, Ws V i t → t[j]? = some b → Way V.ps.length (rl (ct V (i + j))) b
  | x :: t, i, 0, b, h, hj => by
    obtain rfl : x = b := by simpa using hj
    exact h.1
  | x :: t, i, j + 1, b, h, hj => by
    have := Ws_get (j := j) h.2 (by simpa using hj)
    rwa [show i + 1 + j = i + (j + 1) by omega] at this
  | [], i, j, b, h, hj => by simp at hj
theorem Ws_of {V : Ev} : ∀ {t : List Bl} {i : Nat}, (∀ j b, t[j]? = some b → Way V.ps.length (rl (ct V (i + j))) b) → Ws V i t
  | [], i, h => trivial
  | x :: t, i, h => ⟨h 0 x rfl, Ws_of fun j b hj => by have := h (j + 1) b (by simpa using hj); rwa [show i + (j + 1) = i + 1 + j by omega] at this⟩
/-- A truth. -/
def Truth (V : Ev) (t : List Bl) : Prop := t.length = V.cs.length ∧ Ws V 0 t ∧ sumT t = bl V.qs
/-- The least flaws of the first i tills, by what they sold together. -/
def IsB (V : Ev) (i : Nat) (f : Bl → Option Int) : Prop := ∀ c, Mn (fun n => c.Fits (bl V.qs) ∧ ∃ t, t.length = i ∧ Ws V 0 t ∧ sumT t = c ∧ flT V 0 t = n) (f c)
/-- .. of the tills from i on, by what those before them sold together. -/
def IsA (V : Ev) (i : Nat) (f : Bl → Option Int) : Prop := ∀ b, (∃ t, t.length = i ∧ Ws V 0 t ∧ sumT t = b) → Mn (fun n => ∃ t, t.length + i = V.cs.length ∧ Ws V i t ∧ b.add (sumT t) = bl V.qs ∧ flT V i t = n) (f b)
theorem IsB_zero (V : Ev) (h : ∀ x ∈ V.qs, 0 ≤ x ∧ x ≤ 80) : IsB V 0 (E.upd (fun _ => none) Bl.z 0) := by
  intro c
  unfold E.upd
  have hs := small_bl h (by decide)
  split
  · next e =>
    subst e
    refine ⟨⟨?_, [], rfl, trivial, rfl, rfl⟩, ?_⟩
    · have h0 := hs 0 (by decide); have h1 := hs 1 (by decide); have h2 := hs 2 (by decide)
      exact ⟨h0.1, h1.1, h2.1⟩
    · rintro n ⟨_, t, hl, _, _, rfl⟩
      rw [List.eq_nil_of_length_eq_zero hl]
      simp [flT]
  · next e =>
    rintro n ⟨_, t, hl, _, hc, _⟩
    rw [List.eq_nil_of_length_eq_zero hl] at hc
    exact e hc.symm
theorem take_last {α : Type} {t : List α} {i : Nat} (h : t.length = i + 1) : ∃ s b, t = s ++ [b] ∧ s.length = i := by
  have hne : t ≠ [] := by intro e; rw [e] at h; simp at h
  exact ⟨t.dropLast, t.getLast hne, (List.dropLast_concat_getLast hne).symm, by rw [List.length_dropLast]; omega⟩
/-- One till more. -/
theorem IsB_next {V : Ev} (ok : VOk V) {i : Nat} {f f' : Bl → Option Int} (hi : i < V.cs.length) (h : IsB V i f) (h' : ∀ c, Mn (fun n => c.Fits (bl V.qs) ∧ ∃ b m, f b = some m ∧ ∃ o ∈ chs V (ct V i), b.add o.b = c ∧ n = m + o.f3) (f' c)) : IsB V (i + 1) f' := by
  obtain ⟨c0, hc0⟩ := get_ex hi
  have hok := ok.c c0 (List.mem_of_getElem? hc0)
  have hr : 0 ≤ rl (ct V i) := by rw [ct_of hc0]; exact hok.2.2.2.2.2.2.2.1
  intro c
  have hc := h' c
  have key : ∀ n, (c.Fits (bl V.qs) ∧ ∃ b m, f b = some m ∧ ∃ o ∈ chs V (ct V i), b.add o.b = c ∧ n = m + o.f3) → c.Fits (bl V.qs) ∧ ∃ t, t.length = i + 1 ∧ Ws V 0 t ∧ sumT t = c ∧ flT V 0 t = n := by
    rintro n ⟨hf, b, m, hb, o, ho, hs, rfl⟩
    have hM := h b
    rw [hb] at hM
    obtain ⟨⟨_, t, q1, q2, q3, q4⟩, _⟩ := hM
    obtain ⟨w, hw, rfl⟩ := (mem_chs ok.n1 ok.n3 hr).mp ho
    refine ⟨hf, t ++ [w], by simp [q1], (Ws_append V t [w] 0).mpr ⟨q2, ⟨by rw [Nat.zero_add, q1]; exact hw, trivial⟩⟩, ?_, ?_⟩
    · rw [sumT_append, q3, sumT, sumT, Bl.add_z]; exact hs
    · rw [flT_append, q4, flT, flT, Nat.zero_add, q1, mkC_f]; omega
  have key2 : ∀ n, (c.Fits (bl V.qs) ∧ ∃ t, t.length = i + 1 ∧ Ws V 0 t ∧ sumT t = c ∧ flT V 0 t = n) → ∃ n', n' ≤ n ∧ (c.Fits (bl V.qs) ∧ ∃ b m, f b = some m ∧ ∃ o ∈ chs V (ct V i), b.add o.b = c ∧ n' = m + o.f3) := by
    rintro n ⟨hf, t, q1, q2, q3, rfl⟩
    obtain ⟨s, b, rfl, hs⟩ := take_last q1
    obtain ⟨w1, w2, _⟩ := (Ws_append V s [b] 0).mp q2
    rw [Nat.zero_add, hs] at w2
    have hsum : sumT (s ++ [b]) = (sumT s).add b := by rw [sumT_append, sumT, sumT, Bl.add_z]
    have hfs : (sumT s).Fits (bl V.qs) := by
      rw [hsum] at q3
      subst q3
      obtain ⟨a0, a1, a2, _⟩ := w2
      obtain ⟨f0, f1, f2⟩ := hf
      unfold Bl.add at f0 f1 f2
      simp only at f0 f1 f2
      exact ⟨by omega, by omega, by omega⟩
    obtain ⟨m, hm, hle, _⟩ := (h (sumT s)).is ⟨hfs, s, hs, w1, rfl, rfl⟩
    refine ⟨m + (mkC V (ct V i) b).f3, ?_, hf, sumT s, m, hm, mkC V (ct V i) b, (mem_chs ok.n1 ok.n3 hr).mpr ⟨b, w2, rfl⟩, by rw [← q3, hsum]; rfl, rfl⟩
    rw [flT_append, Nat.zero_add, hs, flT, flT, mkC_f]
    omega
  cases hfc : f' c with
  | none =>
    rw [hfc] at hc
    intro n hn
    obtain ⟨n', _, hn'⟩ := key2 n hn
    exact hc n' hn'
  | some m =>
    rw [hfc] at hc
    refine ⟨key m hc.1, fun n hn => ?_⟩
    obtain ⟨n', hle, hn'⟩ := key2 n hn
    have := hc.2 n' hn'
    omega
theorem IsA_last (V : Ev) : IsA V V.cs.length (E.upd (fun _ => none) (bl V.qs) 0) := by
  rintro b ⟨t0, _⟩
  unfold E.upd
  split
  · next e =>
    refine ⟨⟨[], by simp, trivial, by rw [sumT, Bl.add_z]; exact e, rfl⟩, ?_⟩
    rintro n ⟨t, hl, _, _, rfl⟩
    rw [List.eq_nil_of_length_eq_zero (show t.length = 0 by omega)]
    simp [flT]
  · next e =>
    rintro n ⟨t, hl, _, hs, _⟩
    rw [List.eq_nil_of_length_eq_zero (show t.length = 0 by omega), sumT, Bl.add_z] at hs
    exact e hs
/-- One till before. -/
theorem IsA_next {V : Ev} (ok : VOk V) {i : Nat} {fb f f' : Bl → Option Int} (hi : i < V.cs.length) (hb : IsB V i fb) (h : IsA V (i + 1) f) (h' : ∀ b, Mn (fun n => fb b ≠ none ∧ ∃ o ∈ chs V (ct V i), ∃ m, f (b.add o.b) = some m ∧ n = m + o.f3) (f' b)) : IsA V i f' := by
  obtain ⟨c0, hc0⟩ := get_ex hi
  have hok := ok.c c0 (List.mem_of_getElem? hc0)
  have hr : 0 ≤ rl (ct V i) := by rw [ct_of hc0]; exact hok.2.2.2.2.2.2.2.1
  rintro b ⟨t0, l0, w0, s0⟩
  have hreach : ∀ w, Way V.ps.length (rl (ct V i)) w → ∃ t, t.length = i + 1 ∧ Ws V 0 t ∧ sumT t = b.add w := fun w hw => ⟨t0 ++ [w], by simp [l0], (Ws_append V t0 [w] 0).mpr ⟨w0, ⟨by rw [Nat.zero_add, l0]; exact hw, trivial⟩⟩, by rw [sumT_append, s0, sumT, sumT, Bl.add_z]⟩
  have hc := h' b
  have key : ∀ n, (fb b ≠ none ∧ ∃ o ∈ chs V (ct V i), ∃ m, f (b.add o.b) = some m ∧ n = m + o.f3) → ∃ t, t.length + i = V.cs.length ∧ Ws V i t ∧ b.add (sumT t) = bl V.qs ∧ flT V i t = n := by
    rintro n ⟨_, o, ho, m, hm, rfl⟩
    obtain ⟨w, hw, rfl⟩ := (mem_chs ok.n1 ok.n3 hr).mp ho
    have hM := h _ (hreach w hw)
    rw [mkC_b] at hm
    rw [hm] at hM
    obtain ⟨⟨t, q1, q2, q3, q4⟩, _⟩ := hM
    refine ⟨w :: t, by simp; omega, ⟨hw, q2⟩, by rw [sumT, ← Bl.add_assoc]; exact q3, ?_⟩
    rw [flT, q4, mkC_f]
    omega
  have key2 : ∀ n, (∃ t, t.length + i = V.cs.length ∧ Ws V i t ∧ b.add (sumT t) = bl V.qs ∧ flT V i t = n) → ∃ n', n' ≤ n ∧ (fb b ≠ none ∧ ∃ o ∈ chs V (ct V i), ∃ m, f (b.add o.b) = some m ∧ n' = m + o.f3) := by
    rintro n ⟨t, q1, q2, q3, rfl⟩
    rcases t with _ | ⟨w, t⟩
    · simp at q1; omega
    obtain ⟨hw, hws⟩ := q2
    have hn := Ws_nonneg (V := V) (t := w :: t) (i := i) ⟨hw, hws⟩
    have hfb : b.Fits (bl V.qs) := by
      rw [← q3]
      unfold Bl.add
      exact ⟨by simp only; omega, by simp only; omega, by simp only; omega⟩
    obtain ⟨m0, hm0, _⟩ := (hb b).is ⟨hfb, t0, l0, w0, s0, rfl⟩
    obtain ⟨m, hm, hle, _⟩ := (h _ (hreach w hw)).is ⟨t, by simp at q1; omega, hws, by rw [Bl.add_assoc]; exact q3, rfl⟩
    refine ⟨m + (mkC V (ct V i) w).f3, ?_, by rw [hm0]; exact Option.some_ne_none _, mkC V (ct V i) w, (mem_chs ok.n1 ok.n3 hr).mpr ⟨w, hw, rfl⟩, m, hm, rfl⟩
    rw [flT, mkC_f]
    omega
  cases hfc : f' b with
  | none =>
    rw [hfc] at hc
    intro n hn
    obtain ⟨n', _, hn'⟩ := key2 n hn
    exact hc n' hn'
  | some m =>
    rw [hfc] at hc
    refine ⟨key m hc.1, fun n hn => ?_⟩
    obtain ⟨n', hle, hn'⟩ := key2 n hn
    have := hc.2 n' hn'
    omega
/-- The fewest flaws of a truth. -/
def IsFew (V : Ev) (n : Int) : Prop := (∃ t, Truth V t ∧ flT V 0 t = n) ∧ ∀ t, Truth V t → n ≤ flT V 0 t
theorem IsFew.one {V : Ev} {n m : Int} (h : IsFew V n) (k : IsFew V m) : n = m := by
  obtain ⟨⟨t, h1, h2⟩, h3⟩ := h
  obtain ⟨⟨s, k1, k2⟩, k3⟩ := k
  have := h3 s k1
  have := k3 t h1
  omega
theorem few_none {V : Ev} {f : Bl → Option Int} (h : IsB V V.cs.length f) (hf : f (bl V.qs) = none) : ∀ t, ¬ Truth V t := by
  rintro t ⟨h1, h2, h3⟩
  have := h (bl V.qs)
  rw [hf] at this
  exact this _ ⟨⟨Int.le_refl _, Int.le_refl _, Int.le_refl _⟩, t, h1, h2, h3, rfl⟩
theorem few_some {V : Ev} {fb f : Bl → Option Int} (h : IsB V V.cs.length fb) (hf : fb (bl V.qs) ≠ none) (ha : IsA V 0 f) : ∃ n, f Bl.z = some n ∧ IsFew V n := by
  cases hq : fb (bl V.qs) with
  | none => exact absurd hq hf
  | some m =>
    have hM := h (bl V.qs)
    rw [hq] at hM
    obtain ⟨⟨_, t, h1, h2, h3, h4⟩, _⟩ := hM
    have hA := ha Bl.z ⟨[], rfl, trivial, rfl⟩
    obtain ⟨n, hn, hle, t', q1, q2, q3, q4⟩ := hA.is ⟨t, h1, h2, by rw [Bl.z_add]; exact h3, rfl⟩
    rw [hn] at hA
    refine ⟨n, hn, ⟨t', ⟨q1, q2, by rw [Bl.z_add] at q3; exact q3⟩, q4⟩, fun s hs => hA.2 _ ⟨s, hs.1, hs.2.1, by rw [Bl.z_add]; exact hs.2.2, rfl⟩⟩
/-- A till sold this in a likely truth. -/
def Lk (V : Ev) (N : Int) (i : Nat) (b : Bl) : Prop := ∃ t, Truth V t ∧ flT V 0 t = N ∧ t[i]? = some b
theorem lk_iff {V : Ev} (ok : VOk V) {N : Int} (hN : IsFew V N) {i : Nat} (hi : i < V.cs.length) {fb fa : Bl → Option Int} (hb : IsB V i fb) (ha : IsA V (i + 1) fa) {o : S69} (ho : o ∈ chs V (ct V i)) : Lk V N i o.b ↔ ∃ b m, fb b = some m ∧ ∃ r, fa (b.add o.b) = some r ∧ m + o.f3 + r = N := by
  obtain ⟨c0, hc0⟩ := get_ex hi
  have hok := ok.c c0 (List.mem_of_getElem? hc0)
  have hr : 0 ≤ rl (ct V i) := by rw [ct_of hc0]; exact hok.2.2.2.2.2.2.2.1
  obtain ⟨w, hw, rfl⟩ := (mem_chs ok.n1 ok.n3 hr).mp ho
  rw [mkC_b, mkC_f]
  have comb : ∀ s u, s.length = i → Ws V 0 s → u.length + (i + 1) = V.cs.length → Ws V (i + 1) u → ((sumT s).add w).add (sumT u) = bl V.qs → Truth V (s ++ w :: u) ∧ flT V 0 (s ++ w :: u) = flT V 0 s + fl V (ct V i) w + flT V (i + 1) u ∧ (s ++ w :: u)[i]? = some w := by
    intro s u l1 w1 l2 w2 hs
    refine ⟨⟨by simp; omega, (Ws_append V s (w :: u) 0).mpr ⟨w1, by rw [Nat.zero_add, l1]; exact ⟨hw, w2⟩⟩, by rw [sumT_append, sumT, ← Bl.add_assoc]; exact hs⟩, ?_, ?_⟩
    · rw [flT_append, Nat.zero_add, l1, flT]; omega
    · rw [List.getElem?_append_right (by omega), l1, Nat.sub_self]; rfl
  constructor
  · rintro ⟨t, ⟨t1, t2, t3⟩, t4, t5⟩
    obtain ⟨s, u, rfl, hs⟩ : ∃ s u, t = s ++ w :: u ∧ s.length = i := by
      have hl := (List.getElem?_eq_some_iff.1 t5).1
      refine ⟨t.take i, t.drop (i + 1), ?_, by rw [List.length_take]; omega⟩
      have e : t.drop i = w :: t.drop (i + 1) := by
        rw [List.drop_eq_getElem_cons hl]
        rw [List.getElem?_eq_getElem hl] at t5
        rw [Option.some.inj t5]
      rw [← e, List.take_append_drop]
    obtain ⟨w1, w2⟩ := (Ws_append V s (w :: u) 0).mp t2
    rw [Nat.zero_add, hs] at w2
    have hsum : ((sumT s).add w).add (sumT u) = bl V.qs := by rw [← t3, sumT_append, sumT, Bl.add_assoc]
    have hnn := Ws_nonneg (V := V) (t := w :: u) (i := i) w2
    have hfit : (sumT s).Fits (bl V.qs) := by
      rw [← hsum, Bl.add_assoc]
      unfold sumT at hnn
      unfold Bl.add at hnn ⊢
      simp only at hnn
      exact ⟨by simp only; omega, by simp only; omega, by simp only; omega⟩
    simp at t1
    obtain ⟨m, hm, hle, _, s', a1, a2, a3, a4⟩ := (hb (sumT s)).is ⟨hfit, s, hs, w1, rfl, rfl⟩
    have hr1 : ∃ t, t.length = i + 1 ∧ Ws V 0 t ∧ sumT t = (sumT s).add w := ⟨s ++ [w], by simp [hs], (Ws_append V s [w] 0).mpr ⟨w1, ⟨by rw [Nat.zero_add, hs]; exact hw, trivial⟩⟩, by rw [sumT_append, sumT, sumT, Bl.add_z]⟩
    obtain ⟨r, hr2, hle2, u', b1, b2, b3, b4⟩ := (ha _ hr1).is ⟨u, by omega, w2.2, hsum, rfl⟩
    refine ⟨sumT s, m, hm, r, hr2, ?_⟩
    have htot : flT V 0 (s ++ w :: u) = flT V 0 s + fl V (ct V i) w + flT V (i + 1) u := by rw [flT_append, Nat.zero_add, hs, flT]; omega
    obtain ⟨c1, c2, _⟩ := comb s' u' a1 a2 b1 b2 (by rw [a3]; exact b3)
    have := hN.2 _ c1
    omega
  · rintro ⟨b, m, hm, r, hr2, hsum⟩
    have hB := hb b
    rw [hm] at hB
    obtain ⟨⟨_, s, a1, a2, a3, a4⟩, _⟩ := hB
    have hA := ha (b.add w) ⟨s ++ [w], by simp [a1], (Ws_append V s [w] 0).mpr ⟨a2, ⟨by rw [Nat.zero_add, a1]; exact hw, trivial⟩⟩, by rw [sumT_append, sumT, sumT, Bl.add_z, a3]⟩
    rw [hr2] at hA
    obtain ⟨⟨u, b1, b2, b3, b4⟩, _⟩ := hA
    obtain ⟨c1, c2, c3⟩ := comb s u a1 a2 b1 b2 (by rw [a3]; exact b3)
    exact ⟨_, c1, by omega, c3⟩
end Go.Proofs.Ytiplichdhcmjdaa.T
namespace Go.Proofs.Ytiplichdhcmjdaa.T
open Go.RowKit Go.Proofs.YtiplichdhcmjdaaW.PrintWords Go.Proofs.YtiplichdhcmjdaaW.PrintMore
open Go.Proofs.Ytiplichdhcmjdaa.P
set_option linter.unusedVariables false
set_option linter.unusedSimpArgs false
abbrev evI (n : Int) : Value := .int .i64 n
theorem cells3 : Try.prog.cellsOf 3 = 1 := by kernel_rfl
theorem info3i : ∃ i, Try.prog.info? 3 = some i := by
  cases h : Try.prog.info? 3 with
  | none => have := info3s; rw [h] at this; cases this
  | some i => exact ⟨i, rfl⟩
theorem part_bv (b : Bl) (i : Nat) (hi : i < 3) (W : World) : (part 3 #[.int .i64 b.f0, .int .i64 b.f1, .int .i64 b.f2] (i * 1)).run Try.prog W = .ok (.int .i64 (b.get i)) W := part_int (bv_at b hi) W
set_option maxRecDepth 100000 in
theorem bv_equal (x y : Bl) (W : World) : (Op.equal 59 (bv x) (bv y)).run Try.prog W = .ok (decide (x = y)) W := by
  have hu59 := Try.underlying59
  have hu3 := Try.underlying3
  obtain ⟨i, hi⟩ := info3i
  have e : decide (x = y) = (decide (x.f0 = y.f0) && (decide (x.f1 = y.f1) && decide (x.f2 = y.f2))) := by
    obtain ⟨a, b, c⟩ := x
    obtain ⟨a', b', c'⟩ := y
    simp
  rw [e]
  show (Op.equalIn (9999 + 1) 59 (.agg _) (.agg _)).run Try.prog W = _
  rw [run_equalIn_array W 9999 _ _ hu59 hi, cells3]
  have h : ∀ (a b : Int), (Op.equalIn 9999 3 (.int .i64 a) (.int .i64 b)).run Try.prog W = .ok (decide (a = b)) W := fun a b => run_equalIn_int W 9998 3 .i64 .i64 a b hu3
  show (Op.eqItems 9999 3 1 _ _ [0, 1, 2]).run Try.prog W = _
  have g0 : ∀ b : Bl, b.get 0 = b.f0 := fun _ => rfl
  have g1 : ∀ b : Bl, b.get 1 = b.f1 := fun _ => rfl
  have g2 : ∀ b : Bl, b.get 2 = b.f2 := fun _ => rfl
  have step : ∀ (i : Nat) (is : List Nat), i < 3 → (Op.eqItems 9999 3 1 #[.int .i64 x.f0, .int .i64 x.f1, .int .i64 x.f2] #[.int .i64 y.f0, .int .i64 y.f1, .int .i64 y.f2] (i :: is)).run Try.prog W = if x.get i = y.get i then (Op.eqItems 9999 3 1 #[.int .i64 x.f0, .int .i64 x.f1, .int .i64 x.f2] #[.int .i64 y.f0, .int .i64 y.f1, .int .i64 y.f2] is).run Try.prog W else .ok false W := by
    intro i is hi
    simp only [Op.eqItems, Sem.run_bind, part_bv x i hi, part_bv y i hi, Result.andThen_ok, h]
    by_cases q : x.get i = y.get i <;> simp [q]
  rw [step 0 _ (by decide), step 1 _ (by decide), step 2 _ (by decide), g0, g0, g1, g1, g2, g2]
  by_cases q0 : x.f0 = y.f0
  · by_cases q1 : x.f1 = y.f1
    · by_cases q2 : x.f2 = y.f2 <;> simp [q0, q1, q2, Op.eqItems]
    · simp [q0, q1]
  · simp [q0]
set_option maxRecDepth 100000 in
theorem bv_check (em : Bool) (x : Bl) (W : World) : (Instr.checkKey em 10000 59 (bv x)).run Try.prog W = .ok () W := by
  have hu59 := Try.underlying59
  have hu3 := Try.underlying3
  obtain ⟨i, hi⟩ := info3i
  show (Instr.checkKey em (9999 + 1) 59 (.agg #[.int .i64 x.f0, .int .i64 x.f1, .int .i64 x.f2])).run Try.prog W = _
  rw [Instr.checkKey]
  have h9 : ∀ (v : Int) (W : World), (Instr.checkKey em 9999 3 (.int .i64 v)).run Try.prog W = .ok () W := fun v W => MapKept.run_checkKey hu3 (by simp [MapKept.IsKey]) em 9998
  simp only [Sem.run_bind, run_underlying hu59, Result.andThen_ok, Std.Legacy.Range.forIn_eq_forIn_range', Std.Legacy.Range.size, Nat.sub_zero, Nat.add_one_sub_one, Nat.div_one]
  simp only [show List.range' 0 3 1 = [0, 1, 2] from rfl, List.forIn_cons, List.forIn_nil, Sem.run_bind, run_sizeOf W hi, Result.andThen_ok, cells3, part_bv x 0 (by decide), part_bv x 1 (by decide), part_bv x 2 (by decide), h9, Sem.run_pure]
theorem kBT : E.KeyT Try.prog 59 bv := E.KeyT.of_equal Try.underlying59 bv_inj bv_equal (fun x v => rfl) bv_check (fun x => by simp [bv, Instr.sameBits])
theorem zero3I (W : World) : (zeroValue 3).run Try.prog W = .ok (evI 0) W := by
  have := info3z
  unfold zeroValue
  cases h : Try.prog.info? 3 with
  | none => rw [h] at this; cases this
  | some i =>
    rw [h] at this
    have hz : i.zero = some (.int .i64 0) := by simpa using this
    simp [typeInfo, h, hz, Sem.run_bind, Result.andThen]
abbrev MB (w : World) (g : Nat) (f : Bl → Option Int) : Prop := E.Mf bv evI w g f
theorem below_step' {base : Nat} {w0 w w' : World} (h : Below base w0 w) (hs : base ≤ w.heap.size) (l : Below w.heap.size w w') : Below base w0 w' := h.trans (l.mono hs)
/-- Blocks of other types are as they were. -/
def CalmT (e t : Nat) (w w' : World) : Prop := ∀ (k : Nat) (cs : Array Value) (q : Nat) (f : Nat × Nat), w.heap[k]? = some (.cells cs q f) → q ≠ e → q ≠ t → w'.heap[k]? = some (.cells cs q f)
theorem CalmT.refl (e t : Nat) (w : World) : CalmT e t w w := fun _ _ _ _ h _ _ => h
theorem CalmT.trans {e t : Nat} {a b c : World} (h : CalmT e t a b) (k : CalmT e t b c) : CalmT e t a c := fun i cs q f hi h1 h2 => k i cs q f (h i cs q f hi h1 h2) h1 h2
theorem CalmT.below {e t : Nat} {w w' : World} (h : Below w.heap.size w w') : CalmT e t w w' := fun k cs q f hk _ _ => (h.block k (Array.getElem?_eq_some_iff.1 hk).1).trans hk
/-- Where the choices of a till stand in memory, while they are told: w0 is where choices began, wS where this call began. -/
structure Cs (w0 wS w : World) (V : Ev) (m : Ea) (c : S40) (a0 : Option Addr) (k0 g2 g3 g5 g6 : Nat) (v : Value) (xs : List S69) : Prop where
  b2 : w.heap[g2]? = some (.cells #[.slice m.A V.ps.length m.a, .slice m.B V.qs.length m.b, .slice m.C V.ts.length m.c, .slice m.D V.cs.length m.d] 25 (0, 0))
  b3 : w.heap[g3]? = some (.cells #[.slice a0 c.f0.length k0, .int .i64 c.f1, .int .i64 c.f2, .int .i64 c.f3, .int .i64 c.f4, .int .i64 c.f5] 40 (0, 0))
  b5 : w.heap[g5]? = some (.cells #[v] 72 (0, 0))
  b6 : w.heap[g6]? = some (.cells #[.func (.func 82) #[] #[.pointer (some ⟨g2, 0, none⟩), .pointer (some ⟨g3, 0, none⟩), .pointer (some ⟨g5, 0, none⟩), .pointer (some ⟨g6, 0, none⟩)]] 103 (0, 0))
  row : Kd.R k69 69 w w0.heap.size (fun _ => True) v xs
  h5 : w0.heap.size ≤ g5
  bel : Below w0.heap.size w0 w
  sz0 : w0.heap.size ≤ wS.heap.size
  szS : wS.heap.size ≤ w.heap.size
  calm : CalmT 69 72 wS w
section
variable {w0 wS w w' : World} {V : Ev} {m : Ea} {c : S40} {a0 : Option Addr} {k0 g2 g3 g5 g6 : Nat} {v : Value} {xs : List S69}
theorem Cs.enter (h : Cs w0 wS w V m c a0 k0 g2 g3 g5 g6 v xs) : Cs w0 w w V m c a0 k0 g2 g3 g5 g6 v xs := ⟨h.b2, h.b3, h.b5, h.b6, h.row, h.h5, h.bel, Nat.le_trans h.sz0 h.szS, Nat.le_refl _, CalmT.refl _ _ _⟩
theorem Cs.below (h : Cs w0 wS w V m c a0 k0 g2 g3 g5 g6 v xs) (l : Below w.heap.size w w') : Cs w0 wS w' V m c a0 k0 g2 g3 g5 g6 v xs :=
  ⟨blk_below h.b2 l, blk_below h.b3 l, blk_below h.b5 l, blk_below h.b6 l, Kd.R_below h.row l, h.h5, below_step' h.bel (Nat.le_trans h.sz0 h.szS) l, h.sz0, Nat.le_trans h.szS l.size, h.calm.trans (CalmT.below l)⟩
theorem Cs.grown {g : Nat} (h : Cs w0 wS w V m c a0 k0 g2 g3 g5 g6 v xs) (hg : w.grownBy w' (some g)) (k : (∃ (t : Nat) (cs : Array Value), w.heap[g]? = some (.cells cs t (0, 0)) ∧ 25 ≠ t ∧ 40 ≠ t ∧ 72 ≠ t ∧ 103 ≠ t) ∧ some g ≠ v.ownBlock ∧ wS.heap.size ≤ g) : Cs w0 wS w' V m c a0 k0 g2 g3 g5 g6 v xs := by
  obtain ⟨⟨t, cs, hb, h1, h2, h3, h4⟩, hr, hs⟩ := k
  refine ⟨blk_grown h.b2 hg (E.nes (blk_ne h.b2 hb h1)), blk_grown h.b3 hg (E.nes (blk_ne h.b3 hb h2)), blk_grown h.b5 hg (E.nes (blk_ne h.b5 hb h3)), blk_grown h.b6 hg (E.nes (blk_ne h.b6 hb h4)), Kd.R_grown1 h.row rfl hg hr, h.h5, E.below_own h.bel (Nat.le_trans h.sz0 hs) hg, h.sz0, Nat.le_trans h.szS hg.size, fun i cs' q f hi q1 q2 => ?_⟩
  have hlt := (Array.getElem?_eq_some_iff.1 hi).1
  have := h.calm i cs' q f hi q1 q2
  exact (hg.block i (Array.getElem?_eq_some_iff.1 this).1 (fun e => by injection e with e; omega)).trans this
end
end Go.Proofs.Ytiplichdhcmjdaa.T
namespace Go.Proofs.Ytiplichdhcmjdaa.T
open Go.RowKit Go.Proofs.YtiplichdhcmjdaaW.PrintWords Go.Proofs.YtiplichdhcmjdaaW.PrintMore
open Go.Proofs.Ytiplichdhcmjdaa.P
set_option linter.unusedVariables false
set_option linter.unusedSimpArgs false

theorem till_cells {w w' : World} {ad : Addr} {i : Nat} {l : List Value} (X : ∀ j u, l[j]? = some u → w.cell? ((ad.add (i * 6)).add j) = some u) (L : Below w.heap.size w w') (j : Nat) (u : Value) (hu : l[j]? = some u) : w'.cell? ((ad.add (i * 6)).add j) = some u := pw_cell_below L (X j u hu)
theorem sm_bl {c : S40} {n : Nat} (h : COk n c) : SmallB (bl c.f0) 20 := small_bl h.2.1 (by decide)
theorem SmallB.up {b : Bl} {m k : Int} (h : SmallB b m) (hk : m ≤ k) : SmallB b k := fun i hi => ⟨(h i hi).1, Int.le_trans (h i hi).2 hk⟩
theorem worth_small {b : Bl} {m : Int} {ps : List Int} (h : SmallB b m) (hp : ∀ x ∈ ps, 1 ≤ x ∧ x ≤ 50) : 0 ≤ b.worth ps ∧ b.worth ps ≤ 150 * m := by
  have hg : ∀ i, 0 ≤ ps.getD i 0 ∧ ps.getD i 0 ≤ 50 := fun i => by
    by_cases q : i < ps.length
    · obtain ⟨x, hx⟩ := get_ex q
      rw [getD_of hx]
      have := hp x (List.mem_of_getElem? hx)
      omega
    · rw [getD_past (by omega)]; decide
  have a0 := mul_small (h 0 (by decide)).1 (h 0 (by decide)).2 (hg 0).1 (hg 0).2
  have a1 := mul_small (h 1 (by decide)).1 (h 1 (by decide)).2 (hg 1).1 (hg 1).2
  have a2 := mul_small (h 2 (by decide)).1 (h 2 (by decide)).2 (hg 2).1 (hg 2).2
  unfold Bl.worth
  have e0 : b.get 0 = b.f0 := rfl
  have e1 : b.get 1 = b.f1 := rfl
  have e2 : b.get 2 = b.f2 := rfl
  rw [e0] at a0; rw [e1] at a1; rw [e2] at a2
  omega
set_option maxRecDepth 100000 in
set_option maxHeartbeats 8000000 in

theorem parts14 (V : Ev) (m : Ea) (w : World) (hV : EvM w V m) (hs : Sz V) :
    Calls Try.prog 14 #[hv V m] w fun e w' => e = .returned (.tuple #[.int .i64 (partsA V).1, .int .i64 (partsA V).2, .int .i64 (chkV V)]) ∧ Below w.heap.size w w' := by
  have hu3 := Try.underlying3
  have hu22 := Try.underlying22
  have hu23 := Try.underlying23
  have hu25 := Try.underlying25
  have hu40 := Try.underlying40
  have hu59 := Try.underlying59
  obtain ⟨z3, o3⟩ := info_some info3s (by decide)
  obtain ⟨z22, o22⟩ := info_some info22s (by decide)
  obtain ⟨z23, o23⟩ := info_some info23s (by decide)
  obtain ⟨z25, o25⟩ := info_some info25s (by decide)
  obtain ⟨z40, o40⟩ := info_some info40s (by decide)
  obtain ⟨z59, o59⟩ := info_some info59s (by decide)
  refine E.enter (N := 82) Try.func14 rfl Try.ntmps14 (args := [hv V m]) (by simp) ?_
  have L := Below.refl w.heap.size w
  refine E.CG.seq ?_
  refine E.CG.list ?_
  refine E.GL.st rfl rfl rfl (E.ST.box rfl rfl fun g1 w1 e1 b1 l1 => ?_)
  have h1_L : w.heap.size ≤ g1 := by rw [e1]; exact L.size
  replace L := below_step L l1
  refine E.GL.run rfl rfl rfl (E.Runs.assign rfl rfl) ?_
  refine E.GL.run rfl rfl rfl (E.Runs.assign rfl rfl) ?_
  refine E.GL.run rfl rfl rfl (E.Runs.assign rfl rfl) ?_
  refine E.GL.done ?_
  refine E.QG.code ?_
  refine E.CG.seq ?_
  refine E.CG.seq ?_
  refine E.CG.list ?_
  refine E.GL.run rfl rfl rfl (E.Runs.loads (cs := [.slice m.A V.ps.length m.a, .slice m.B V.qs.length m.b, .slice m.C V.ts.length m.c, .slice m.D V.cs.length m.d]) rfl rfl hu25 rfl info25s (blk_cells b1)) ?_
  refine E.GL.st rfl rfl rfl (E.ST.call rfl ent33 (E.evc rfl E.evn) ((check33 V m _ (hV.below L) hs).mono ?_))
  rintro e w14 ⟨rfl, l14⟩
  refine ⟨_, rfl, ?_⟩
  replace b1 := blk_below b1 l14
  replace L := below_step L l14
  by_cases ok : VOk V
  · refine E.GL.run rfl rfl rfl (E.Runs.neq rfl rfl rfl (E.ne_f (chkV_yes ok))) ?_
    refine E.GL.done ?_
    refine E.QG.code ?_
    refine E.CG.cond_f rfl ?_
    refine E.CG.skip ?_
    refine E.QG.code ?_
    refine E.CG.seq ?_
    refine E.CG.list ?_
    refine E.GL.st rfl rfl rfl (E.ST.alloc rfl info59z fun g5 w5 e5 b5 l5 => ?_)
    have h5_L : w.heap.size ≤ g5 := by rw [e5]; exact L.size
    have n5_b1 : g1 ≠ g5 := by have := blk_lt b1; omega
    replace b1 := blk_below b1 l5
    replace L := below_step L l5
    refine E.GL.done ?_
    refine E.QG.code ?_
    refine E.CG.seq ?_
    refine E.CG.seq ?_
    refine E.CG.list ?_
    refine E.GL.run rfl rfl rfl (E.Runs.fieldAddr rfl rfl hu25 rfl (by assumption) rfl) ?_
    refine E.GL.run rfl rfl rfl (E.Runs.load1 rfl rfl hu23 rfl (by first | assumption | exact E.blkc (by assumption) rfl | exact pw_cell_below L (by assumption))) ?_
    refine E.GL.run rfl rfl rfl (E.Runs.len rfl rfl hu23) ?_
    refine E.GL.run rfl rfl rfl (E.Runs.move rfl rfl) ?_
    refine E.GL.done ?_
    refine E.QG.code ?_
    refine E.CG.block ?_
    have s5_b1 := b1
    have s5_b5 := b5
    have s5_L := L
    refine E.CG.loop (fun (i : Nat) => [(1, .pointer (some ⟨g1, 0, none⟩)), (5, .pointer (some ⟨g5, 0, none⟩)), (17, .slice m.D V.cs.length m.d), (18, .int .i64 V.cs.length), (19, .int .i64 i)]) (fun i w' => i ≤ V.cs.length ∧ (∀ j, j < i → badTill V j = false) ∧ w'.heap[g1]? = some (.cells #[.slice m.A V.ps.length m.a, .slice m.B V.qs.length m.b, .slice m.C V.ts.length m.c, .slice m.D V.cs.length m.d] 25 (0, 0)) ∧ w'.heap[g5]? = some (.cells #[.int .i64 (allB V i).f0, .int .i64 (allB V i).f1, .int .i64 (allB V i).f2] 59 (0, 0)) ∧ Below w.heap.size w w') (fun i => V.cs.length - i) 0 (E.subc rfl (E.subc rfl (E.subc rfl (E.subc rfl (E.subc rfl E.subn))))) ⟨Nat.zero_le _, fun j hj => by omega, b1, b5, L⟩ ?_
    rintro i w5 ⟨hi, hk, b1, b5, L⟩
    refine E.CG.seq ?_
    refine E.CG.list ?_
    refine E.GL.cmp rfl rfl rfl (fun _ h => (E.Runs.lss rfl rfl rfl h)) (fun h20 => ?_) (fun h20 => ?_)
    · have hc4 := ok.c4
      obtain ⟨c, hc⟩ := get_ex (show i < V.cs.length by omega)
      obtain ⟨ad, a0, k0, eA, hk0, hx0, X⟩ := till_at hV.cs hc
      have hcok := ok.c c (List.mem_of_getElem? hc)
      obtain ⟨q1, q2, q3, q4, q5, q6, q7, q8⟩ := id hcok
      have hsm := sm_bl hcok
      have hwo := worth_small hsm ok.p
      have hall := allB_small ok (i := i) (by omega)
      refine E.GL.done ?_
      refine E.QG.code ?_
      refine E.CG.seq ?_
      refine E.CG.cond_t rfl ?_
      refine E.CG.skip ?_
      refine E.QG.code ?_
      refine E.CG.seq ?_
      refine E.CG.block ?_
      refine E.CG.seq ?_
      refine E.CG.list ?_
      refine E.GL.run rfl rfl rfl (E.Runs.move rfl rfl) ?_
      refine E.GL.run rfl rfl rfl (E.Runs.indexAddrA (i := i) rfl rfl rfl hu23 z40 o40 (by omega) eA rfl) ?_
      refine E.GL.run rfl rfl rfl (E.Runs.loads (cs := [.slice a0 c.f0.length k0, .int .i64 c.f1, .int .i64 c.f2, .int .i64 c.f3, .int .i64 c.f4, .int .i64 c.f5]) rfl rfl hu40 rfl info40s (till_cells X L)) ?_
      refine E.GL.st rfl rfl rfl (E.ST.alloc rfl info40z fun g7 w7 e7 b7 l7 => ?_)
      have h7_L : w.heap.size ≤ g7 := by rw [e7]; exact L.size
      have n7_b1 : g1 ≠ g7 := by have := blk_lt b1; omega
      have n7_b5 : g5 ≠ g7 := by have := blk_lt b5; omega
      replace b1 := blk_below b1 l7
      replace b5 := blk_below b5 l7
      replace L := below_step L l7
      refine E.GL.run rfl rfl rfl (E.Runs.assign rfl rfl) ?_
      refine E.GL.store_whole rfl rfl rfl rfl rfl b7 rfl info40s (cells6_one _ _ _ _ _ _ _ _) fun wS6_5 c7 lS6_5 => ?_
      replace b1 := blk_grown b1 lS6_5 (E.nes (by first | assumption | exact Ne.symm (by assumption)))
      replace b5 := blk_grown b5 lS6_5 (E.nes (by first | assumption | exact Ne.symm (by assumption)))
      replace L := E.below_own L h7_L lS6_5
      replace b7 := c7
      clear c7
      refine E.GL.done ?_
      refine E.QG.code ?_
      refine E.CG.seq ?_
      refine E.CG.list ?_
      refine E.GL.run rfl rfl rfl (E.Runs.fieldAddr rfl rfl hu40 rfl (by assumption) rfl) ?_
      refine E.GL.run rfl rfl rfl (E.Runs.load1 rfl rfl hu22 rfl (by first | assumption | exact E.blkc (by assumption) rfl | exact pw_cell_below L (by assumption))) ?_
      refine E.GL.st rfl rfl rfl (E.ST.call rfl ent44 (E.evc rfl E.evn) ((said_calls c.f0 a0 k0 _ (Kd.C_below hx0 L) (by have := ok.n3; omega)).mono ?_))
      rintro e w26 ⟨rfl, l26⟩
      refine ⟨_, rfl, ?_⟩
      replace b1 := blk_below b1 l26
      replace b5 := blk_below b5 l26
      replace b7 := blk_below b7 l26
      replace L := below_step L l26
      refine E.GL.st rfl rfl rfl (E.ST.alloc rfl info59z fun g8 w8 e8 b8 l8 => ?_)
      have h8_L : w.heap.size ≤ g8 := by rw [e8]; exact L.size
      have n8_b1 : g1 ≠ g8 := by have := blk_lt b1; omega
      have n8_b5 : g5 ≠ g8 := by have := blk_lt b5; omega
      have n8_b7 : g7 ≠ g8 := by have := blk_lt b7; omega
      replace b1 := blk_below b1 l8
      replace b5 := blk_below b5 l8
      replace b7 := blk_below b7 l8
      replace L := below_step L l8
      refine E.GL.store_whole rfl rfl rfl rfl rfl b8 rfl info59s (bv_one (bl c.f0)) fun wS7_4 c8 lS7_4 => ?_
      replace b1 := blk_grown b1 lS7_4 (E.nes (by first | assumption | exact Ne.symm (by assumption)))
      replace b5 := blk_grown b5 lS7_4 (E.nes (by first | assumption | exact Ne.symm (by assumption)))
      replace b7 := blk_grown b7 lS7_4 (E.nes (by first | assumption | exact Ne.symm (by assumption)))
      replace L := E.below_own L h8_L lS7_4
      replace b8 := c8
      clear c8
      refine E.GL.done ?_
      refine E.QG.code ?_
      refine E.CG.seq ?_
      refine E.CG.block ?_
      refine E.CG.seq ?_
      refine E.CG.heldH (none) (by kernel_rfl) fun v8 lD hh => ?_
      replace b1 := blk_below b1 lD
      replace b5 := blk_below b5 lD
      replace b7 := blk_below b7 lD
      replace b8 := blk_below b8 lD
      replace L := below_step L lD
      clear lD
      have s_b1 := b1
      have s_b5 := b5
      have s_b7 := b7
      have s_b8 := b8
      have s_L := L
      refine E.GH.take (i := 0) rfl (by kernel_rfl) (by kernel_rfl) (by kernel_rfl) (by intro c a d v w h; first | (cases d <;> exact h) | exact nomatch (show _ ∧ _ from h).1) rfl rfl rfl (fun w' hS => (E.Runs.loads (cs := [.int .i64 (bl c.f0).f0, .int .i64 (bl c.f0).f1, .int .i64 (bl c.f0).f2]) rfl rfl hu59 rfl info59s (blk_cells (blk_grown s_b8 hS E.nen)))) ?_
      refine E.GH.take (i := 2) rfl (by kernel_rfl) (by kernel_rfl) (by kernel_rfl) (by intro c a d v w h; first | (cases d <;> exact h) | exact nomatch (show _ ∧ _ from h).1) rfl rfl rfl (fun w' hS => (E.Runs.loads (cs := [.slice a0 c.f0.length k0, .int .i64 c.f1, .int .i64 c.f2, .int .i64 c.f3, .int .i64 c.f4, .int .i64 c.f5]) rfl rfl hu40 rfl info40s (blk_cells (blk_grown s_b7 hS E.nen)))) ?_
      refine E.GH.one (i := 1) (by kernel_rfl) rfl ?_
      refine E.GO.st rfl rfl rfl (E.ST.call rfl ent45 (E.evc rfl E.evn) ((sum_calls (bl c.f0) _ (hsm.up (by decide))).mono ?_))
      rintro e w29 ⟨rfl, l29⟩
      refine ⟨_, rfl, hh.trans (E.gbB l29), ?_⟩
      replace hh := hh.trans (E.gbB l29)
      replace b1 := blk_below b1 l29
      replace b5 := blk_below b5 l29
      replace b7 := blk_below b7 l29
      replace b8 := blk_below b8 l29
      replace L := below_step L l29
      refine E.GH.one (i := 3) (by kernel_rfl) rfl ?_
      refine E.GO.st rfl rfl rfl (E.ST.call rfl ent46 (E.evc rfl E.evn) ((roll_o c a0 k0 _ q3 q4 q7).mono ?_))
      rintro e w31 ⟨rfl, l31⟩
      refine ⟨_, rfl, hh.trans (E.gbB l31), ?_⟩
      replace hh := hh.trans (E.gbB l31)
      replace b1 := blk_below b1 l31
      replace b5 := blk_below b5 l31
      replace b7 := blk_below b7 l31
      replace b8 := blk_below b8 l31
      replace L := below_step L l31
      refine E.GH.cmpn (i := 4) rfl (by kernel_rfl) (by kernel_rfl) (by kernel_rfl) (by intro c a d v w h; first | (cases d <;> exact h) | exact nomatch (show _ ∧ _ from h).1) rfl rfl rfl (fun _ h w' hS => (E.Runs.neq rfl rfl rfl h)) (fun h32 => ?_) (fun h32 => ?_)
      · refine E.GH.take (i := 5) rfl (by kernel_rfl) (by kernel_rfl) (by kernel_rfl) (by intro c a d v w h; first | (cases d <;> exact h) | exact nomatch (show _ ∧ _ from h).1) rfl rfl rfl (fun w' hS => (E.Runs.assign rfl rfl)) ?_
        refine E.GH.done (by kernel_rfl) ?_
        refine E.QG.code ?_
        refine E.CG.cond_t rfl ?_
        refine E.CG.seq ?_
        refine E.CG.list ?_
        refine E.GL.run rfl rfl rfl (E.Runs.move rfl rfl) ?_
        refine E.GL.run rfl rfl rfl (E.Runs.assign rfl rfl) ?_
        refine E.GL.run rfl rfl rfl (E.Runs.assign rfl rfl) ?_
        refine E.GL.run rfl rfl rfl (E.Runs.assign rfl rfl) ?_
        refine E.GL.done ?_
        refine E.QG.code ?_
        refine E.CG.ret ?_
        refine E.QG.block_ret ?_
        refine E.QG.pass_ret ?_
        refine E.QG.block_ret ?_
        refine E.QG.pass_ret ?_
        refine E.QG.pass_ret ?_
        refine E.QG.block_ret ?_
        refine E.QG.pass_ret ?_
        exact E.QG.result3 rfl rfl rfl rfl ⟨by rw [chkV_yes ok, partsA_yes ok, partsV_1 hc hk h32], L⟩
      · refine E.GH.take (i := 5) rfl (by kernel_rfl) (by kernel_rfl) (by kernel_rfl) (by intro c a d v w h; first | (cases d <;> exact h) | exact nomatch (show _ ∧ _ from h).1) rfl rfl rfl (fun w' hS => (E.Runs.assign rfl rfl)) ?_
        refine E.GH.done (by kernel_rfl) ?_
        refine E.QG.code ?_
        refine E.CG.cond_f rfl ?_
        refine E.CG.seq ?_
        refine E.CG.heldH (none) (by kernel_rfl) fun v10 lD hh => ?_
        replace b1 := blk_below b1 lD
        replace b5 := blk_below b5 lD
        replace b7 := blk_below b7 lD
        replace b8 := blk_below b8 lD
        replace L := below_step L lD
        clear lD
        have s_b1 := b1
        have s_b5 := b5
        have s_b7 := b7
        have s_b8 := b8
        have s_L := L
        refine E.GH.take (i := 0) rfl (by kernel_rfl) (by kernel_rfl) (by kernel_rfl) (by intro c a d v w h; first | (cases d <;> exact h) | exact nomatch (show _ ∧ _ from h).1) rfl rfl rfl (fun w' hS => (E.Runs.fieldAddr rfl rfl hu40 rfl (by assumption) rfl)) ?_
        refine E.GH.take (i := 1) rfl (by kernel_rfl) (by kernel_rfl) (by kernel_rfl) (by intro c a d v w h; first | (cases d <;> exact h) | exact nomatch (show _ ∧ _ from h).1) rfl rfl rfl (fun w' hS => (E.Runs.load rfl rfl hu3 (by first | exact E.keeps hS (E.blkc (by assumption) rfl) (by first | exact E.nen | exact E.nes (by assumption) | exact E.nes (Ne.symm (by assumption))) | exact pw_cell_below (below_step s_L (E.belowG hS)) (by assumption)))) ?_
        refine E.GH.take (i := 2) rfl (by kernel_rfl) (by kernel_rfl) (by kernel_rfl) (by intro c a d v w h; first | (cases d <;> exact h) | exact nomatch (show _ ∧ _ from h).1) rfl rfl rfl (fun w' hS => (E.Runs.fieldAddr rfl rfl hu40 rfl (by assumption) rfl)) ?_
        refine E.GH.take (i := 3) rfl (by kernel_rfl) (by kernel_rfl) (by kernel_rfl) (by intro c a d v w h; first | (cases d <;> exact h) | exact nomatch (show _ ∧ _ from h).1) rfl rfl rfl (fun w' hS => (E.Runs.load rfl rfl hu3 (by first | exact E.keeps hS (E.blkc (by assumption) rfl) (by first | exact E.nen | exact E.nes (by assumption) | exact E.nes (Ne.symm (by assumption))) | exact pw_cell_below (below_step s_L (E.belowG hS)) (by assumption)))) ?_
        refine E.GH.take (i := 4) rfl (by kernel_rfl) (by kernel_rfl) (by kernel_rfl) (by intro c a d v w h; first | (cases d <;> exact h) | exact nomatch (show _ ∧ _ from h).1) rfl rfl rfl (fun w' hS => (E.Runs.loads (cs := [.int .i64 (bl c.f0).f0, .int .i64 (bl c.f0).f1, .int .i64 (bl c.f0).f2]) rfl rfl hu59 rfl info59s (blk_cells (blk_grown s_b8 hS E.nen)))) ?_
        refine E.GH.take (i := 5) rfl (by kernel_rfl) (by kernel_rfl) (by kernel_rfl) (by intro c a d v w h; first | (cases d <;> exact h) | exact nomatch (show _ ∧ _ from h).1) rfl rfl rfl (fun w' hS => (E.Runs.fieldAddr rfl rfl hu25 rfl (by assumption) rfl)) ?_
        refine E.GH.take (i := 6) rfl (by kernel_rfl) (by kernel_rfl) (by kernel_rfl) (by intro c a d v w h; first | (cases d <;> exact h) | exact nomatch (show _ ∧ _ from h).1) rfl rfl rfl (fun w' hS => (E.Runs.load1 rfl rfl hu22 rfl (by first | exact E.keeps hS (E.blkc (by assumption) rfl) (by first | exact E.nen | exact E.nes (by assumption) | exact E.nes (Ne.symm (by assumption))) | exact pw_cell_below (below_step s_L (E.belowG hS)) (by assumption)))) ?_
        refine E.GH.one (i := 7) (by kernel_rfl) rfl ?_
        refine E.GO.st rfl rfl rfl (E.ST.call rfl ent47 (E.evc rfl (E.evc rfl E.evn)) ((worth_calls (bl c.f0) V.ps m.A m.a _ (hV.below L).ps ok.n3 (fun x hx => by have := ok.p x hx; omega) (hsm.up (by decide))).mono ?_))
        rintro e w42 ⟨rfl, l42⟩
        refine ⟨_, rfl, hh.trans (E.gbB l42), ?_⟩
        replace hh := hh.trans (E.gbB l42)
        replace b1 := blk_below b1 l42
        replace b5 := blk_below b5 l42
        replace b7 := blk_below b7 l42
        replace b8 := blk_below b8 l42
        replace L := below_step L l42
        refine E.GH.take (i := 8) rfl (by kernel_rfl) (by kernel_rfl) (by kernel_rfl) (by intro c a d v w h; first | (cases d <;> exact h) | exact nomatch (show _ ∧ _ from h).1) rfl rfl rfl (fun w' hS => (E.Runs.add rfl rfl rfl (IntWalk.i64_in _ (by omega)))) ?_
        refine E.GH.cmpn (i := 9) rfl (by kernel_rfl) (by kernel_rfl) (by kernel_rfl) (by intro c a d v w h; first | (cases d <;> exact h) | exact nomatch (show _ ∧ _ from h).1) rfl rfl rfl (fun _ h w' hS => (E.Runs.neq rfl rfl rfl h)) (fun h44 => ?_) (fun h44 => ?_)
        · refine E.GH.take (i := 10) rfl (by kernel_rfl) (by kernel_rfl) (by kernel_rfl) (by intro c a d v w h; first | (cases d <;> exact h) | exact nomatch (show _ ∧ _ from h).1) rfl rfl rfl (fun w' hS => (E.Runs.assign rfl rfl)) ?_
          refine E.GH.done (by kernel_rfl) ?_
          refine E.QG.code ?_
          refine E.CG.cond_t rfl ?_
          refine E.CG.seq ?_
          refine E.CG.list ?_
          refine E.GL.run rfl rfl rfl (E.Runs.move rfl rfl) ?_
          refine E.GL.run rfl rfl rfl (E.Runs.assign rfl rfl) ?_
          refine E.GL.run rfl rfl rfl (E.Runs.assign rfl rfl) ?_
          refine E.GL.run rfl rfl rfl (E.Runs.assign rfl rfl) ?_
          refine E.GL.done ?_
          refine E.QG.code ?_
          refine E.CG.ret ?_
          refine E.QG.block_ret ?_
          refine E.QG.pass_ret ?_
          refine E.QG.block_ret ?_
          refine E.QG.pass_ret ?_
          refine E.QG.pass_ret ?_
          refine E.QG.block_ret ?_
          refine E.QG.pass_ret ?_
          exact E.QG.result3 rfl rfl rfl rfl ⟨by rw [chkV_yes ok, partsA_yes ok, partsV_2 hc hk h32 h44], L⟩
        · refine E.GH.take (i := 10) rfl (by kernel_rfl) (by kernel_rfl) (by kernel_rfl) (by intro c a d v w h; first | (cases d <;> exact h) | exact nomatch (show _ ∧ _ from h).1) rfl rfl rfl (fun w' hS => (E.Runs.assign rfl rfl)) ?_
          refine E.GH.done (by kernel_rfl) ?_
          refine E.QG.code ?_
          refine E.CG.cond_f rfl ?_
          refine E.CG.skip ?_
          refine E.QG.block_normal ?_
          refine E.QG.code ?_
          refine E.CG.list ?_
          refine E.GL.run rfl rfl rfl (E.Runs.loads (cs := [.int .i64 (allB V i).f0, .int .i64 (allB V i).f1, .int .i64 (allB V i).f2]) rfl rfl hu59 rfl info59s (blk_cells b5)) ?_
          refine E.GL.run rfl rfl rfl (E.Runs.loads (cs := [.int .i64 (bl c.f0).f0, .int .i64 (bl c.f0).f1, .int .i64 (bl c.f0).f2]) rfl rfl hu59 rfl info59s (blk_cells b8)) ?_
          refine E.GL.st rfl rfl rfl (E.ST.call rfl ent48 (E.evc rfl (E.evc rfl E.evn)) ((plus_calls (allB V i) (bl c.f0) _ (hall.up (by have := ok.c4; omega)) (hsm.up (by decide))).mono ?_))
          rintro e w48 ⟨rfl, l48⟩
          refine ⟨_, rfl, ?_⟩
          replace b1 := blk_below b1 l48
          replace b5 := blk_below b5 l48
          replace b7 := blk_below b7 l48
          replace b8 := blk_below b8 l48
          replace L := below_step L l48
          refine E.GL.store_whole rfl rfl rfl rfl rfl b5 rfl info59s (bv_one ((allB V i).add (bl c.f0))) fun wS12_3 c5 lS12_3 => ?_
          replace b1 := blk_grown b1 lS12_3 (E.nes (by first | assumption | exact Ne.symm (by assumption)))
          replace b7 := blk_grown b7 lS12_3 (E.nes (by first | assumption | exact Ne.symm (by assumption)))
          replace b8 := blk_grown b8 lS12_3 (E.nes (by first | assumption | exact Ne.symm (by assumption)))
          replace L := E.below_own L h5_L lS12_3
          replace b5 := c5
          clear c5
          refine E.GL.done ?_
          refine E.QG.block_normal ?_
          refine E.QG.code ?_
          refine E.CG.list ?_
          refine E.GL.run rfl rfl rfl (E.Runs.add rfl rfl rfl (IntWalk.i64_in _ (by omega))) ?_
          refine E.GL.run rfl rfl rfl (E.Runs.move rfl rfl) ?_
          refine E.GL.done ?_
          exact E.QG.round (i + 1) (E.subc rfl (E.subc rfl (E.subc rfl (E.subc rfl (E.subc rfl E.subn))))) ⟨by omega, upto_more hk (badTill_no hc h32 h44), b1, by rw [allB, ct_of hc]; exact b5, L⟩ (by omega)
    · obtain rfl : i = V.cs.length := by omega
      refine E.GL.done ?_
      refine E.QG.code ?_
      refine E.CG.seq ?_
      refine E.CG.cond_f rfl ?_
      refine E.CG.exit ?_
      refine E.QG.pass_exit ?_
      refine E.QG.pass_exit ?_
      refine E.QG.block_here ?_
      refine E.QG.code ?_
      refine E.CG.seq ?_
      refine E.CG.seq ?_
      refine E.CG.list ?_
      refine E.GL.run rfl rfl rfl (E.Runs.fieldAddr rfl rfl hu25 rfl (by assumption) rfl) ?_
      refine E.GL.run rfl rfl rfl (E.Runs.load1 rfl rfl hu22 rfl (by first | assumption | exact E.blkc (by assumption) rfl | exact pw_cell_below L (by assumption))) ?_
      refine E.GL.run rfl rfl rfl (E.Runs.len rfl rfl hu22) ?_
      refine E.GL.run rfl rfl rfl (E.Runs.move rfl rfl) ?_
      refine E.GL.done ?_
      refine E.QG.code ?_
      refine E.CG.block ?_
      have s15_b1 := b1
      have s15_b5 := b5
      have s15_L := L
      refine E.CG.loop (fun (i : Nat) => [(1, .pointer (some ⟨g1, 0, none⟩)), (5, .pointer (some ⟨g5, 0, none⟩)), (51, .slice m.B V.qs.length m.b), (52, .int .i64 V.qs.length), (53, .int .i64 i)]) (fun i w' => i ≤ V.qs.length ∧ (∀ j, j < i → badSeat V j = false) ∧ w'.heap[g1]? = some (.cells #[.slice m.A V.ps.length m.a, .slice m.B V.qs.length m.b, .slice m.C V.ts.length m.c, .slice m.D V.cs.length m.d] 25 (0, 0)) ∧ w'.heap[g5]? = some (.cells #[.int .i64 (allB V V.cs.length).f0, .int .i64 (allB V V.cs.length).f1, .int .i64 (allB V V.cs.length).f2] 59 (0, 0)) ∧ Below w.heap.size w w') (fun i => V.qs.length - i) 0 (E.subc rfl (E.subc rfl (E.subc rfl (E.subc rfl (E.subc rfl E.subn))))) ⟨Nat.zero_le _, fun j hj => by omega, b1, b5, L⟩ ?_
      rintro i w15 ⟨hi, hk2, b1, b5, L⟩
      refine E.CG.seq ?_
      refine E.CG.list ?_
      refine E.GL.cmp rfl rfl rfl (fun _ h => (E.Runs.lss rfl rfl rfl h)) (fun h54 => ?_) (fun h54 => ?_)
      · have hnq := ok.nq
        have hnt := ok.nt
        have hn3 := ok.n3
        have hs3 : i < 3 := by have := ok.nq; have := ok.n3; omega
        have hsn : i < V.ps.length := by have := ok.nq; omega
        obtain ⟨x, hx⟩ := get_ex (show i < V.qs.length by have := ok.nq; omega)
        obtain ⟨ad, eA, X⟩ := int_at hV.qs hx
        obtain ⟨y, hy⟩ := get_ex (show i < V.ts.length by have := ok.nt; omega)
        obtain ⟨ae, eB, Y⟩ := int_at hV.ts hy
        refine E.GL.done ?_
        refine E.QG.code ?_
        refine E.CG.seq ?_
        refine E.CG.cond_t rfl ?_
        refine E.CG.skip ?_
        refine E.QG.code ?_
        refine E.CG.seq ?_
        refine E.CG.block ?_
        refine E.CG.seq ?_
        refine E.CG.list ?_
        refine E.GL.run rfl rfl rfl (E.Runs.move rfl rfl) ?_
        refine E.GL.run rfl rfl rfl (E.Runs.indexAddrA (i := i) rfl rfl rfl hu22 z3 o3 (by omega) eA rfl) ?_
        refine E.GL.run rfl rfl rfl (E.Runs.load rfl rfl hu3 (pw_cell_below L X)) ?_
        refine E.GL.run rfl rfl rfl (E.Runs.assign rfl rfl) ?_
        refine E.GL.run rfl rfl rfl (E.Runs.assign rfl rfl) ?_
        refine E.GL.done ?_
        refine E.QG.code ?_
        refine E.CG.seq ?_
        refine E.CG.list ?_
        refine E.GL.run rfl rfl rfl (E.Runs.move rfl rfl) ?_
        refine E.GL.run rfl rfl rfl (E.Runs.indexArr rfl rfl rfl hu59 z3 o3 (by omega) (by omega) (show _ = (⟨g5, i, none⟩ : Addr) from by rw [Go.Addr.add_mid]; simp)) ?_
        refine E.GL.run rfl rfl rfl (E.Runs.load rfl rfl hu3 (b3_cell b5 (by omega))) ?_
        refine E.GL.run rfl rfl rfl (E.Runs.move rfl rfl) ?_
        refine E.GL.cmpn rfl rfl rfl (fun _ h => (E.Runs.neq rfl rfl rfl h)) (fun h62 => ?_) (fun h62 => ?_)
        · refine E.GL.done ?_
          refine E.QG.code ?_
          refine E.CG.cond_t rfl ?_
          refine E.CG.seq ?_
          refine E.CG.list ?_
          refine E.GL.run rfl rfl rfl (E.Runs.move rfl rfl) ?_
          refine E.GL.run rfl rfl rfl (E.Runs.assign rfl rfl) ?_
          refine E.GL.run rfl rfl rfl (E.Runs.assign rfl rfl) ?_
          refine E.GL.run rfl rfl rfl (E.Runs.assign rfl rfl) ?_
          refine E.GL.done ?_
          refine E.QG.code ?_
          refine E.CG.ret ?_
          refine E.QG.block_ret ?_
          refine E.QG.pass_ret ?_
          refine E.QG.pass_ret ?_
          refine E.QG.block_ret ?_
          refine E.QG.pass_ret ?_
          exact E.QG.result3 rfl rfl rfl rfl ⟨by rw [chkV_yes ok, partsA_yes ok, partsV_3 hk hsn hk2 (by unfold badSeat; rw [getD_of hx]; simp [h62])], L⟩
        · refine E.GL.done ?_
          refine E.QG.code ?_
          refine E.CG.cond_f rfl ?_
          refine E.CG.skip ?_
          refine E.QG.block_normal ?_
          refine E.QG.code ?_
          refine E.CG.list ?_
          refine E.GL.run rfl rfl rfl (E.Runs.add rfl rfl rfl (IntWalk.i64_in _ (by omega))) ?_
          refine E.GL.run rfl rfl rfl (E.Runs.move rfl rfl) ?_
          refine E.GL.done ?_
          exact E.QG.round (i + 1) (E.subc rfl (E.subc rfl (E.subc rfl (E.subc rfl (E.subc rfl E.subn))))) ⟨by omega, upto_more hk2 (by unfold badSeat; rw [getD_of hx]; simp [h62]), b1, b5, L⟩ (by omega)
      · have hk2' : ∀ j, j < V.ps.length → badSeat V j = false := fun j hj => hk2 j (by have := ok.nq; omega)
        refine E.GL.done ?_
        refine E.QG.code ?_
        refine E.CG.seq ?_
        refine E.CG.cond_f rfl ?_
        refine E.CG.exit ?_
        refine E.QG.pass_exit ?_
        refine E.QG.pass_exit ?_
        refine E.QG.block_here ?_
        refine E.QG.code ?_
        refine E.CG.seq ?_
        refine E.CG.seq ?_
        refine E.CG.list ?_
        refine E.GL.run rfl rfl rfl (E.Runs.fieldAddr rfl rfl hu25 rfl (by assumption) rfl) ?_
        refine E.GL.run rfl rfl rfl (E.Runs.load1 rfl rfl hu22 rfl (by first | assumption | exact E.blkc (by assumption) rfl | exact pw_cell_below L (by assumption))) ?_
        refine E.GL.run rfl rfl rfl (E.Runs.len rfl rfl hu22) ?_
        refine E.GL.run rfl rfl rfl (E.Runs.move rfl rfl) ?_
        refine E.GL.done ?_
        refine E.QG.code ?_
        refine E.CG.block ?_
        have s21_b1 := b1
        have s21_b5 := b5
        have s21_L := L
        refine E.CG.loop (fun (i : Nat) => [(1, .pointer (some ⟨g1, 0, none⟩)), (66, .slice m.B V.qs.length m.b), (67, .int .i64 V.qs.length), (68, .int .i64 i)]) (fun i w' => i ≤ V.qs.length ∧ (∀ j, j < i → badStub V j = false) ∧ w'.heap[g1]? = some (.cells #[.slice m.A V.ps.length m.a, .slice m.B V.qs.length m.b, .slice m.C V.ts.length m.c, .slice m.D V.cs.length m.d] 25 (0, 0)) ∧ Below w.heap.size w w') (fun i => V.qs.length - i) 0 (E.subc rfl (E.subc rfl (E.subc rfl (E.subc rfl E.subn)))) ⟨Nat.zero_le _, fun j hj => by omega, b1, L⟩ ?_
        rintro i w21 ⟨hi, hk3, b1, L⟩
        refine E.CG.seq ?_
        refine E.CG.list ?_
        refine E.GL.cmp rfl rfl rfl (fun _ h => (E.Runs.lss rfl rfl rfl h)) (fun h69 => ?_) (fun h69 => ?_)
        · have hnq := ok.nq
          have hnt := ok.nt
          have hn3 := ok.n3
          have hs3 : i < 3 := by have := ok.nq; have := ok.n3; omega
          have hsn : i < V.ps.length := by have := ok.nq; omega
          obtain ⟨x, hx⟩ := get_ex (show i < V.qs.length by have := ok.nq; omega)
          obtain ⟨ad, eA, X⟩ := int_at hV.qs hx
          obtain ⟨y, hy⟩ := get_ex (show i < V.ts.length by have := ok.nt; omega)
          obtain ⟨ae, eB, Y⟩ := int_at hV.ts hy
          refine E.GL.done ?_
          refine E.QG.code ?_
          refine E.CG.seq ?_
          refine E.CG.cond_t rfl ?_
          refine E.CG.skip ?_
          refine E.QG.code ?_
          refine E.CG.seq ?_
          refine E.CG.block ?_
          refine E.CG.seq ?_
          refine E.CG.list ?_
          refine E.GL.run rfl rfl rfl (E.Runs.move rfl rfl) ?_
          refine E.GL.run rfl rfl rfl (E.Runs.indexAddrA (i := i) rfl rfl rfl hu22 z3 o3 (by omega) eA rfl) ?_
          refine E.GL.run rfl rfl rfl (E.Runs.load rfl rfl hu3 (pw_cell_below L X)) ?_
          refine E.GL.run rfl rfl rfl (E.Runs.assign rfl rfl) ?_
          refine E.GL.run rfl rfl rfl (E.Runs.assign rfl rfl) ?_
          refine E.GL.done ?_
          refine E.QG.code ?_
          refine E.CG.seq ?_
          refine E.CG.list ?_
          refine E.GL.run rfl rfl rfl (E.Runs.fieldAddr rfl rfl hu25 rfl (by assumption) rfl) ?_
          refine E.GL.run rfl rfl rfl (E.Runs.load1 rfl rfl hu22 rfl (by first | assumption | exact E.blkc (by assumption) rfl | exact pw_cell_below L (by assumption))) ?_
          refine E.GL.run rfl rfl rfl (E.Runs.move rfl rfl) ?_
          refine E.GL.run rfl rfl rfl (E.Runs.indexAddrA (i := i) rfl rfl rfl hu22 z3 o3 (by omega) eB rfl) ?_
          refine E.GL.run rfl rfl rfl (E.Runs.load rfl rfl hu3 (pw_cell_below L Y)) ?_
          refine E.GL.run rfl rfl rfl (E.Runs.move rfl rfl) ?_
          refine E.GL.cmp rfl rfl rfl (fun _ h => (E.Runs.gtr rfl rfl rfl h)) (fun h79 => ?_) (fun h79 => ?_)
          · refine E.GL.done ?_
            refine E.QG.code ?_
            refine E.CG.cond_t rfl ?_
            refine E.CG.seq ?_
            refine E.CG.list ?_
            refine E.GL.run rfl rfl rfl (E.Runs.move rfl rfl) ?_
            refine E.GL.run rfl rfl rfl (E.Runs.assign rfl rfl) ?_
            refine E.GL.run rfl rfl rfl (E.Runs.assign rfl rfl) ?_
            refine E.GL.run rfl rfl rfl (E.Runs.assign rfl rfl) ?_
            refine E.GL.done ?_
            refine E.QG.code ?_
            refine E.CG.ret ?_
            refine E.QG.block_ret ?_
            refine E.QG.pass_ret ?_
            refine E.QG.pass_ret ?_
            refine E.QG.block_ret ?_
            refine E.QG.pass_ret ?_
            exact E.QG.result3 rfl rfl rfl rfl ⟨by rw [chkV_yes ok, partsA_yes ok, partsV_4 hk hsn hk2' hk3 (by unfold badStub; rw [getD_of hx, getD_of hy]; simp; omega)], L⟩
          · refine E.GL.done ?_
            refine E.QG.code ?_
            refine E.CG.cond_f rfl ?_
            refine E.CG.skip ?_
            refine E.QG.block_normal ?_
            refine E.QG.code ?_
            refine E.CG.list ?_
            refine E.GL.run rfl rfl rfl (E.Runs.add rfl rfl rfl (IntWalk.i64_in _ (by omega))) ?_
            refine E.GL.run rfl rfl rfl (E.Runs.move rfl rfl) ?_
            refine E.GL.done ?_
            exact E.QG.round (i + 1) (E.subc rfl (E.subc rfl (E.subc rfl (E.subc rfl E.subn)))) ⟨by omega, upto_more hk3 (by unfold badStub; rw [getD_of hx, getD_of hy]; simp; omega), b1, L⟩ (by omega)
        · have hk3' : ∀ j, j < V.ps.length → badStub V j = false := fun j hj => hk3 j (by have := ok.nq; omega)
          refine E.GL.done ?_
          refine E.QG.code ?_
          refine E.CG.seq ?_
          refine E.CG.cond_f rfl ?_
          refine E.CG.exit ?_
          refine E.QG.pass_exit ?_
          refine E.QG.pass_exit ?_
          refine E.QG.block_here ?_
          refine E.QG.code ?_
          refine E.CG.seq ?_
          refine E.CG.list ?_
          refine E.GL.run rfl rfl rfl (E.Runs.assign rfl rfl) ?_
          refine E.GL.run rfl rfl rfl (E.Runs.assign rfl rfl) ?_
          refine E.GL.run rfl rfl rfl (E.Runs.assign rfl rfl) ?_
          refine E.GL.done ?_
          refine E.QG.code ?_
          refine E.CG.ret ?_
          exact E.QG.result3 rfl rfl rfl rfl ⟨by rw [chkV_yes ok, partsA_yes ok, partsV_0 hk hk2' hk3'], L⟩
  · refine E.GL.run rfl rfl rfl (E.Runs.neq rfl rfl rfl (E.ne_t (by rw [chkV_no ok]; decide))) ?_
    refine E.GL.done ?_
    refine E.QG.code ?_
    refine E.CG.cond_t rfl ?_
    refine E.CG.seq ?_
    refine E.CG.list ?_
    refine E.GL.run rfl rfl rfl (E.Runs.assign rfl rfl) ?_
    refine E.GL.run rfl rfl rfl (E.Runs.assign rfl rfl) ?_
    refine E.GL.run rfl rfl rfl (E.Runs.assign rfl rfl) ?_
    refine E.GL.done ?_
    refine E.QG.code ?_
    refine E.CG.ret ?_
    refine E.QG.pass_ret ?_
    exact E.QG.result3 rfl rfl rfl rfl ⟨by rw [chkV_no ok, partsA_no ok], L⟩

end Go.Proofs.Ytiplichdhcmjdaa.T
namespace Go.Proofs.Ytiplichdhcmjdaa.T
open Go.RowKit Go.Proofs.YtiplichdhcmjdaaW.PrintWords Go.Proofs.YtiplichdhcmjdaaW.PrintMore
open Go.Proofs.Ytiplichdhcmjdaa.P
set_option linter.unusedVariables false
set_option linter.unusedSimpArgs false

set_option maxRecDepth 100000 in
theorem lit22 (x : Int) (W : World) : (Instr.buildSlice 22 1 #[(0, .int .i64 x)]).run Try.prog W = .ok (.slice (some ⟨W.heap.size, 0, none⟩) 1 1) (W.alloc (.cells #[.int .i64 x] 3 (0, 0))) := by
  have hu22 := Try.underlying22
  go_simp
def bigV (V : Ev) : Prop := 30 < V.ps.length ∨ 30 < V.qs.length ∨ 30 < V.ts.length ∨ 30 < V.cs.length ∨ ∃ x ∈ V.cs, 30 < x.f0.length
/-- Too large for the statements. -/
def farV (V : Ev) : Prop := bigV V ∨ VOk V ∧ (3 < V.cs.length ∨ ∃ x ∈ V.cs, 7 < rl x)
theorem not_far {V : Ev} (h : ¬ farV V) : Sz V := by
  unfold farV bigV at h
  refine ⟨by omega, by omega, by omega, by omega, fun x hx => ?_⟩
  rcases Nat.lt_or_ge 30 x.f0.length with q | q
  · exact absurd (.inl (.inr (.inr (.inr (.inr ⟨x, hx, q⟩))))) h
  · omega
theorem S40.eq {x y : S40} (h0 : x.f0 = y.f0) (h1 : x.f1 = y.f1) (h2 : x.f2 = y.f2) (h3 : x.f3 = y.f3) (h4 : x.f4 = y.f4) (h5 : x.f5 = y.f5) : x = y := by cases x; cases y; simp_all
theorem Ev.eq {x y : Ev} (h0 : x.ps = y.ps) (h1 : x.qs = y.qs) (h2 : x.ts = y.ts) (h3 : x.cs = y.cs) : x = y := by cases x; cases y; simp_all
set_option maxRecDepth 100000 in
set_option maxHeartbeats 8000000 in

theorem far_calls (V : Ev) (m : Ea) (w : World) (hV : EvM w V m) (r : Bool) (hr : r = true ↔ farV V) :
    Calls Try.prog 20 #[hv V m] w fun e w' => e = .returned (.bool r) ∧ Below w.heap.size w w' := by
  have hu3 := Try.underlying3
  have hu22 := Try.underlying22
  have hu23 := Try.underlying23
  have hu25 := Try.underlying25
  have hu40 := Try.underlying40
  obtain ⟨z3, o3⟩ := info_some info3s (by decide)
  obtain ⟨z22, o22⟩ := info_some info22s (by decide)
  obtain ⟨z23, o23⟩ := info_some info23s (by decide)
  obtain ⟨z40, o40⟩ := info_some info40s (by decide)
  refine E.enter (N := 63) Try.func20 rfl Try.ntmps20 (args := [hv V m]) (by simp) ?_
  have L := Below.refl w.heap.size w
  refine E.CG.seq ?_
  refine E.CG.list ?_
  refine E.GL.st rfl rfl rfl (E.ST.box rfl rfl fun g1 w1 e1 b1 l1 => ?_)
  have h1_L : w.heap.size ≤ g1 := by rw [e1]; exact L.size
  replace L := below_step L l1
  refine E.GL.run rfl rfl rfl (E.Runs.assign rfl rfl) ?_
  refine E.GL.done ?_
  refine E.QG.code ?_
  refine E.CG.seq ?_
  refine E.CG.seq ?_
  refine E.CG.list ?_
  refine E.GL.run rfl rfl rfl (E.Runs.fieldAddr rfl rfl hu25 rfl (by assumption) rfl) ?_
  refine E.GL.run rfl rfl rfl (E.Runs.load1 rfl rfl hu22 rfl (by first | assumption | exact E.blkc (by assumption) rfl | exact pw_cell_below L (by assumption))) ?_
  refine E.GL.run rfl rfl rfl (E.Runs.len rfl rfl hu22) ?_
  refine E.GL.cmp rfl rfl rfl (fun _ h => (E.Runs.gtr rfl rfl rfl h)) (fun h8 => ?_) (fun h8 => ?_)
  · refine E.GL.run rfl rfl rfl (E.Runs.move rfl rfl) ?_
    refine E.GL.skip rfl rfl rfl ?_
    refine E.GL.skip rfl rfl rfl ?_
    refine E.GL.skip rfl rfl rfl ?_
    refine E.GL.skip rfl rfl rfl ?_
    refine E.GL.run rfl rfl rfl (E.Runs.pick_t rfl rfl rfl) ?_
    refine E.GL.run rfl rfl rfl (E.Runs.move rfl rfl) ?_
    refine E.GL.skip rfl rfl rfl ?_
    refine E.GL.skip rfl rfl rfl ?_
    refine E.GL.skip rfl rfl rfl ?_
    refine E.GL.skip rfl rfl rfl ?_
    refine E.GL.run rfl rfl rfl (E.Runs.pick_t rfl rfl rfl) ?_
    refine E.GL.run rfl rfl rfl (E.Runs.move rfl rfl) ?_
    refine E.GL.skip rfl rfl rfl ?_
    refine E.GL.skip rfl rfl rfl ?_
    refine E.GL.skip rfl rfl rfl ?_
    refine E.GL.skip rfl rfl rfl ?_
    refine E.GL.run rfl rfl rfl (E.Runs.pick_t rfl rfl rfl) ?_
    refine E.GL.done ?_
    refine E.QG.code ?_
    refine E.CG.cond_t rfl ?_
    refine E.CG.seq ?_
    refine E.CG.list ?_
    refine E.GL.run rfl rfl rfl (E.Runs.assign rfl rfl) ?_
    refine E.GL.done ?_
    refine E.QG.code ?_
    refine E.CG.ret ?_
    refine E.QG.pass_ret ?_
    exact E.QG.result rfl rfl ⟨by rw [hr.mpr (by unfold farV bigV; omega)], L⟩
  · refine E.GL.run rfl rfl rfl (E.Runs.move rfl rfl) ?_
    refine E.GL.run rfl rfl rfl (E.Runs.fieldAddr rfl rfl hu25 rfl (by assumption) rfl) ?_
    refine E.GL.run rfl rfl rfl (E.Runs.load1 rfl rfl hu22 rfl (by first | assumption | exact E.blkc (by assumption) rfl | exact pw_cell_below L (by assumption))) ?_
    refine E.GL.run rfl rfl rfl (E.Runs.len rfl rfl hu22) ?_
    refine E.GL.cmp rfl rfl rfl (fun _ h => (E.Runs.gtr rfl rfl rfl h)) (fun h13 => ?_) (fun h13 => ?_)
    · refine E.GL.run rfl rfl rfl (E.Runs.pick_f rfl rfl rfl) ?_
      refine E.GL.run rfl rfl rfl (E.Runs.move rfl rfl) ?_
      refine E.GL.skip rfl rfl rfl ?_
      refine E.GL.skip rfl rfl rfl ?_
      refine E.GL.skip rfl rfl rfl ?_
      refine E.GL.skip rfl rfl rfl ?_
      refine E.GL.run rfl rfl rfl (E.Runs.pick_t rfl rfl rfl) ?_
      refine E.GL.run rfl rfl rfl (E.Runs.move rfl rfl) ?_
      refine E.GL.skip rfl rfl rfl ?_
      refine E.GL.skip rfl rfl rfl ?_
      refine E.GL.skip rfl rfl rfl ?_
      refine E.GL.skip rfl rfl rfl ?_
      refine E.GL.run rfl rfl rfl (E.Runs.pick_t rfl rfl rfl) ?_
      refine E.GL.done ?_
      refine E.QG.code ?_
      refine E.CG.cond_t rfl ?_
      refine E.CG.seq ?_
      refine E.CG.list ?_
      refine E.GL.run rfl rfl rfl (E.Runs.assign rfl rfl) ?_
      refine E.GL.done ?_
      refine E.QG.code ?_
      refine E.CG.ret ?_
      refine E.QG.pass_ret ?_
      exact E.QG.result rfl rfl ⟨by rw [hr.mpr (by unfold farV bigV; omega)], L⟩
    · refine E.GL.run rfl rfl rfl (E.Runs.pick_f rfl rfl rfl) ?_
      refine E.GL.run rfl rfl rfl (E.Runs.move rfl rfl) ?_
      refine E.GL.run rfl rfl rfl (E.Runs.fieldAddr rfl rfl hu25 rfl (by assumption) rfl) ?_
      refine E.GL.run rfl rfl rfl (E.Runs.load1 rfl rfl hu22 rfl (by first | assumption | exact E.blkc (by assumption) rfl | exact pw_cell_below L (by assumption))) ?_
      refine E.GL.run rfl rfl rfl (E.Runs.len rfl rfl hu22) ?_
      refine E.GL.cmp rfl rfl rfl (fun _ h => (E.Runs.gtr rfl rfl rfl h)) (fun h19 => ?_) (fun h19 => ?_)
      · refine E.GL.run rfl rfl rfl (E.Runs.pick_f rfl rfl rfl) ?_
        refine E.GL.run rfl rfl rfl (E.Runs.move rfl rfl) ?_
        refine E.GL.skip rfl rfl rfl ?_
        refine E.GL.skip rfl rfl rfl ?_
        refine E.GL.skip rfl rfl rfl ?_
        refine E.GL.skip rfl rfl rfl ?_
        refine E.GL.run rfl rfl rfl (E.Runs.pick_t rfl rfl rfl) ?_
        refine E.GL.done ?_
        refine E.QG.code ?_
        refine E.CG.cond_t rfl ?_
        refine E.CG.seq ?_
        refine E.CG.list ?_
        refine E.GL.run rfl rfl rfl (E.Runs.assign rfl rfl) ?_
        refine E.GL.done ?_
        refine E.QG.code ?_
        refine E.CG.ret ?_
        refine E.QG.pass_ret ?_
        exact E.QG.result rfl rfl ⟨by rw [hr.mpr (by unfold farV bigV; omega)], L⟩
      · refine E.GL.run rfl rfl rfl (E.Runs.pick_f rfl rfl rfl) ?_
        refine E.GL.run rfl rfl rfl (E.Runs.move rfl rfl) ?_
        refine E.GL.run rfl rfl rfl (E.Runs.fieldAddr rfl rfl hu25 rfl (by assumption) rfl) ?_
        refine E.GL.run rfl rfl rfl (E.Runs.load1 rfl rfl hu23 rfl (by first | assumption | exact E.blkc (by assumption) rfl | exact pw_cell_below L (by assumption))) ?_
        refine E.GL.run rfl rfl rfl (E.Runs.len rfl rfl hu23) ?_
        refine E.GL.cmp rfl rfl rfl (fun _ h => (E.Runs.gtr rfl rfl rfl h)) (fun h25 => ?_) (fun h25 => ?_)
        · refine E.GL.run rfl rfl rfl (E.Runs.pick_f rfl rfl rfl) ?_
          refine E.GL.done ?_
          refine E.QG.code ?_
          refine E.CG.cond_t rfl ?_
          refine E.CG.seq ?_
          refine E.CG.list ?_
          refine E.GL.run rfl rfl rfl (E.Runs.assign rfl rfl) ?_
          refine E.GL.done ?_
          refine E.QG.code ?_
          refine E.CG.ret ?_
          refine E.QG.pass_ret ?_
          exact E.QG.result rfl rfl ⟨by rw [hr.mpr (by unfold farV bigV; omega)], L⟩
        · refine E.GL.run rfl rfl rfl (E.Runs.pick_f rfl rfl rfl) ?_
          refine E.GL.done ?_
          refine E.QG.code ?_
          refine E.CG.cond_f rfl ?_
          refine E.CG.skip ?_
          refine E.QG.code ?_
          refine E.CG.seq ?_
          refine E.CG.seq ?_
          refine E.CG.list ?_
          refine E.GL.run rfl rfl rfl (E.Runs.assign rfl rfl) ?_
          refine E.GL.done ?_
          refine E.QG.code ?_
          refine E.CG.block ?_
          have s4_b1 := b1
          have s4_L := L
          refine E.CG.loop (fun (i : Nat) => [(1, .pointer (some ⟨g1, 0, none⟩)), (3, .int .i64 i)]) (fun i w' => i ≤ V.cs.length ∧ (∀ k, k < i → ∀ x, V.cs[k]? = some x → x.f0.length ≤ 30) ∧ w'.heap[g1]? = some (.cells #[.slice m.A V.ps.length m.a, .slice m.B V.qs.length m.b, .slice m.C V.ts.length m.c, .slice m.D V.cs.length m.d] 25 (0, 0)) ∧ Below w.heap.size w w') (fun i => V.cs.length - i) 0 (E.subc rfl (E.subc rfl E.subn)) ⟨Nat.zero_le _, fun k hk => by omega, b1, L⟩ ?_
          rintro i w4 ⟨hi, hk1, b1, L⟩
          refine E.CG.seq ?_
          refine E.CG.seq ?_
          refine E.CG.list ?_
          refine E.GL.run rfl rfl rfl (E.Runs.move rfl rfl) ?_
          refine E.GL.run rfl rfl rfl (E.Runs.fieldAddr rfl rfl hu25 rfl (by assumption) rfl) ?_
          refine E.GL.run rfl rfl rfl (E.Runs.load1 rfl rfl hu23 rfl (by first | assumption | exact E.blkc (by assumption) rfl | exact pw_cell_below L (by assumption))) ?_
          refine E.GL.run rfl rfl rfl (E.Runs.len rfl rfl hu23) ?_
          refine E.GL.cmp rfl rfl rfl (fun _ h => (E.Runs.lss rfl rfl rfl h)) (fun h31 => ?_) (fun h31 => ?_)
          · obtain ⟨x, hx⟩ := get_ex (show i < V.cs.length by omega)
            obtain ⟨ad, a0, k0, eA, hk0, hx0, X⟩ := till_at hV.cs hx
            refine E.GL.done ?_
            refine E.QG.code ?_
            refine E.CG.cond_t rfl ?_
            refine E.CG.skip ?_
            refine E.QG.code ?_
            refine E.CG.seq ?_
            refine E.CG.block ?_
            refine E.CG.seq ?_
            refine E.CG.list ?_
            refine E.GL.run rfl rfl rfl (E.Runs.fieldAddr rfl rfl hu25 rfl (by assumption) rfl) ?_
            refine E.GL.run rfl rfl rfl (E.Runs.load1 rfl rfl hu23 rfl (by first | assumption | exact E.blkc (by assumption) rfl | exact pw_cell_below L (by assumption))) ?_
            refine E.GL.run rfl rfl rfl (E.Runs.move rfl rfl) ?_
            refine E.GL.run rfl rfl rfl (E.Runs.indexAddrA (i := i) rfl rfl rfl hu23 z40 o40 (by omega) eA rfl) ?_
            refine E.GL.run rfl rfl rfl (E.Runs.fieldAddr rfl rfl hu40 rfl (by assumption) rfl) ?_
            refine E.GL.run rfl rfl rfl (E.Runs.load1 rfl rfl hu22 rfl (till_field X L 0 rfl)) ?_
            refine E.GL.run rfl rfl rfl (E.Runs.len rfl rfl hu22) ?_
            refine E.GL.cmp rfl rfl rfl (fun _ h => (E.Runs.gtr rfl rfl rfl h)) (fun h41 => ?_) (fun h41 => ?_)
            · refine E.GL.done ?_
              refine E.QG.code ?_
              refine E.CG.cond_t rfl ?_
              refine E.CG.seq ?_
              refine E.CG.list ?_
              refine E.GL.run rfl rfl rfl (E.Runs.assign rfl rfl) ?_
              refine E.GL.done ?_
              refine E.QG.code ?_
              refine E.CG.ret ?_
              refine E.QG.block_ret ?_
              refine E.QG.pass_ret ?_
              refine E.QG.pass_ret ?_
              refine E.QG.block_ret ?_
              refine E.QG.pass_ret ?_
              exact E.QG.result rfl rfl ⟨by rw [hr.mpr ((.inl (.inr (.inr (.inr (.inr ⟨x, List.mem_of_getElem? hx, by omega⟩))))))], L⟩
            · refine E.GL.done ?_
              refine E.QG.code ?_
              refine E.CG.cond_f rfl ?_
              refine E.CG.skip ?_
              refine E.QG.block_normal ?_
              refine E.QG.code ?_
              refine E.CG.list ?_
              refine E.GL.run rfl rfl rfl (E.Runs.move rfl rfl) ?_
              refine E.GL.run rfl rfl rfl (E.Runs.add rfl rfl rfl (IntWalk.i64_in _ (by omega))) ?_
              refine E.GL.run rfl rfl rfl (E.Runs.assign rfl rfl) ?_
              refine E.GL.done ?_
              exact E.QG.round (i + 1) (E.subc rfl (E.subc rfl E.subn)) ⟨by omega, all_more hk1 hx (by omega), b1, L⟩ (by omega)
          · have hall : ∀ x ∈ V.cs, x.f0.length ≤ 30 := all_done hk1 (by omega)
            have hz : Sz V := ⟨by omega, by omega, by omega, by omega, fun x hx => by have := hall x hx; omega⟩
            have hnb : ¬ bigV V := by
              unfold bigV
              rintro (q | q | q | q | ⟨x, q1, q2⟩)
              · omega
              · omega
              · omega
              · omega
              · have := hall x q1; omega
            refine E.GL.done ?_
            refine E.QG.code ?_
            refine E.CG.cond_f rfl ?_
            refine E.CG.exit ?_
            refine E.QG.pass_exit ?_
            refine E.QG.pass_exit ?_
            refine E.QG.block_here ?_
            refine E.QG.code ?_
            refine E.CG.seq ?_
            refine E.CG.seq ?_
            refine E.CG.list ?_
            refine E.GL.run rfl rfl rfl (E.Runs.loads (cs := [.slice m.A V.ps.length m.a, .slice m.B V.qs.length m.b, .slice m.C V.ts.length m.c, .slice m.D V.cs.length m.d]) rfl rfl hu25 rfl info25s (blk_cells b1)) ?_
            refine E.GL.st rfl rfl rfl (E.ST.call rfl ent34 (E.evc rfl E.evn) ((check34 V m _ (hV.below L) hz).mono ?_))
            rintro e w43 ⟨rfl, l43⟩
            refine ⟨_, rfl, ?_⟩
            replace b1 := blk_below b1 l43
            replace L := below_step L l43
            by_cases ok : VOk V
            · refine E.GL.run rfl rfl rfl (E.Runs.neq rfl rfl rfl (E.ne_f (chkV_yes ok))) ?_
              refine E.GL.done ?_
              refine E.QG.code ?_
              refine E.CG.cond_f rfl ?_
              refine E.CG.skip ?_
              refine E.QG.code ?_
              refine E.CG.seq ?_
              refine E.CG.seq ?_
              refine E.CG.list ?_
              refine E.GL.run rfl rfl rfl (E.Runs.assign rfl rfl) ?_
              refine E.GL.done ?_
              refine E.QG.code ?_
              refine E.CG.block ?_
              have s11_b1 := b1
              have s11_L := L
              refine E.CG.loop (fun (i : Nat) => [(1, .pointer (some ⟨g1, 0, none⟩)), (4, .int .i64 i)]) (fun i w' => i ≤ V.cs.length ∧ (∀ k, k < i → ∀ x, V.cs[k]? = some x → rl x ≤ 7) ∧ w'.heap[g1]? = some (.cells #[.slice m.A V.ps.length m.a, .slice m.B V.qs.length m.b, .slice m.C V.ts.length m.c, .slice m.D V.cs.length m.d] 25 (0, 0)) ∧ Below w.heap.size w w') (fun i => V.cs.length - i) 0 (E.subc rfl (E.subc rfl E.subn)) ⟨Nat.zero_le _, fun k hk => by omega, b1, L⟩ ?_
              rintro i w11 ⟨hi, hk2, b1, L⟩
              refine E.CG.seq ?_
              refine E.CG.seq ?_
              refine E.CG.list ?_
              refine E.GL.run rfl rfl rfl (E.Runs.move rfl rfl) ?_
              refine E.GL.run rfl rfl rfl (E.Runs.fieldAddr rfl rfl hu25 rfl (by assumption) rfl) ?_
              refine E.GL.run rfl rfl rfl (E.Runs.load1 rfl rfl hu23 rfl (by first | assumption | exact E.blkc (by assumption) rfl | exact pw_cell_below L (by assumption))) ?_
              refine E.GL.run rfl rfl rfl (E.Runs.len rfl rfl hu23) ?_
              refine E.GL.cmp rfl rfl rfl (fun _ h => (E.Runs.lss rfl rfl rfl h)) (fun h49 => ?_) (fun h49 => ?_)
              · obtain ⟨x, hx⟩ := get_ex (show i < V.cs.length by omega)
                obtain ⟨ad, a0, k0, eA, hk0, hx0, X⟩ := till_at hV.cs hx
                obtain ⟨q1, q2, q3, q4, q5, q6, q7, q8⟩ := ok.c x (List.mem_of_getElem? hx)
                refine E.GL.done ?_
                refine E.QG.code ?_
                refine E.CG.cond_t rfl ?_
                refine E.CG.skip ?_
                refine E.QG.code ?_
                refine E.CG.seq ?_
                refine E.CG.block ?_
                refine E.CG.seq ?_
                refine E.CG.list ?_
                refine E.GL.run rfl rfl rfl (E.Runs.fieldAddr rfl rfl hu25 rfl (by assumption) rfl) ?_
                refine E.GL.run rfl rfl rfl (E.Runs.load1 rfl rfl hu23 rfl (by first | assumption | exact E.blkc (by assumption) rfl | exact pw_cell_below L (by assumption))) ?_
                refine E.GL.run rfl rfl rfl (E.Runs.move rfl rfl) ?_
                refine E.GL.run rfl rfl rfl (E.Runs.indexAddrA (i := i) rfl rfl rfl hu23 z40 o40 (by omega) eA rfl) ?_
                refine E.GL.run rfl rfl rfl (E.Runs.loads (cs := [.slice a0 x.f0.length k0, .int .i64 x.f1, .int .i64 x.f2, .int .i64 x.f3, .int .i64 x.f4, .int .i64 x.f5]) rfl rfl hu40 rfl info40s (till_cells X L)) ?_
                refine E.GL.st rfl rfl rfl (E.ST.call rfl ent38 (E.evc rfl E.evn) ((roll_r x a0 k0 _ q3 q4 q7).mono ?_))
                rintro e w57 ⟨rfl, l57⟩
                refine ⟨_, rfl, ?_⟩
                replace b1 := blk_below b1 l57
                replace L := below_step L l57
                refine E.GL.cmp rfl rfl rfl (fun _ h => (E.Runs.gtr rfl rfl rfl h)) (fun h58 => ?_) (fun h58 => ?_)
                · refine E.GL.done ?_
                  refine E.QG.code ?_
                  refine E.CG.cond_t rfl ?_
                  refine E.CG.seq ?_
                  refine E.CG.list ?_
                  refine E.GL.run rfl rfl rfl (E.Runs.assign rfl rfl) ?_
                  refine E.GL.done ?_
                  refine E.QG.code ?_
                  refine E.CG.ret ?_
                  refine E.QG.block_ret ?_
                  refine E.QG.pass_ret ?_
                  refine E.QG.pass_ret ?_
                  refine E.QG.block_ret ?_
                  refine E.QG.pass_ret ?_
                  exact E.QG.result rfl rfl ⟨by rw [hr.mpr ((.inr ⟨ok, .inr ⟨x, List.mem_of_getElem? hx, by omega⟩⟩))], L⟩
                · refine E.GL.done ?_
                  refine E.QG.code ?_
                  refine E.CG.cond_f rfl ?_
                  refine E.CG.skip ?_
                  refine E.QG.block_normal ?_
                  refine E.QG.code ?_
                  refine E.CG.list ?_
                  refine E.GL.run rfl rfl rfl (E.Runs.move rfl rfl) ?_
                  refine E.GL.run rfl rfl rfl (E.Runs.add rfl rfl rfl (IntWalk.i64_in _ (by omega))) ?_
                  refine E.GL.run rfl rfl rfl (E.Runs.assign rfl rfl) ?_
                  refine E.GL.done ?_
                  exact E.QG.round (i + 1) (E.subc rfl (E.subc rfl E.subn)) ⟨by omega, all_more hk2 hx (by omega), b1, L⟩ (by omega)
              · have hall2 : ∀ x ∈ V.cs, rl x ≤ 7 := all_done hk2 (by omega)
                refine E.GL.done ?_
                refine E.QG.code ?_
                refine E.CG.cond_f rfl ?_
                refine E.CG.exit ?_
                refine E.QG.pass_exit ?_
                refine E.QG.pass_exit ?_
                refine E.QG.block_here ?_
                refine E.QG.code ?_
                refine E.CG.seq ?_
                refine E.CG.list ?_
                refine E.GL.run rfl rfl rfl (E.Runs.fieldAddr rfl rfl hu25 rfl (by assumption) rfl) ?_
                refine E.GL.run rfl rfl rfl (E.Runs.load1 rfl rfl hu23 rfl (by first | assumption | exact E.blkc (by assumption) rfl | exact pw_cell_below L (by assumption))) ?_
                refine E.GL.run rfl rfl rfl (E.Runs.len rfl rfl hu23) ?_
                refine E.GL.cmp rfl rfl rfl (fun _ h => (E.Runs.gtr rfl rfl rfl h)) (fun h62 => ?_) (fun h62 => ?_)
                · refine E.GL.run rfl rfl rfl (E.Runs.assign rfl rfl) ?_
                  refine E.GL.done ?_
                  refine E.QG.code ?_
                  refine E.CG.ret ?_
                  exact E.QG.result rfl rfl ⟨by rw [hr.mpr ((.inr ⟨ok, .inl (by omega)⟩))], L⟩
                · refine E.GL.run rfl rfl rfl (E.Runs.assign rfl rfl) ?_
                  refine E.GL.done ?_
                  refine E.QG.code ?_
                  refine E.CG.ret ?_
                  exact E.QG.result rfl rfl ⟨by rw [bool_no hr (fun k => by
                      rcases k with k | ⟨_, k | ⟨x, q1, q2⟩⟩
                      · exact hnb k
                      · omega
                      · have := hall2 x q1; omega)], L⟩
            · refine E.GL.run rfl rfl rfl (E.Runs.neq rfl rfl rfl (E.ne_t (by rw [chkV_no ok]; decide))) ?_
              refine E.GL.done ?_
              refine E.QG.code ?_
              refine E.CG.cond_t rfl ?_
              refine E.CG.seq ?_
              refine E.CG.list ?_
              refine E.GL.run rfl rfl rfl (E.Runs.assign rfl rfl) ?_
              refine E.GL.done ?_
              refine E.QG.code ?_
              refine E.CG.ret ?_
              refine E.QG.pass_ret ?_
              exact E.QG.result rfl rfl ⟨by rw [bool_no hr (fun k => k.elim hnb (fun q => ok q.1))], L⟩

set_option maxRecDepth 100000 in
set_option maxHeartbeats 8000000 in

theorem valid_calls (V : Ev) (m : Ea) (w : World) (hV : EvM w V m) (r : Bool) (hr : r = true ↔ ¬ farV V ∧ VOk V) :
    Calls Try.prog 12 #[hv V m] w fun e w' => e = .returned (.bool r) ∧ Below w.heap.size w w' := by
  haveI : Decidable (farV V) := Classical.propDecidable _
  have hu3 := Try.underlying3
  have hu25 := Try.underlying25
  obtain ⟨z3, o3⟩ := info_some info3s (by decide)
  refine E.enter (N := 11) Try.func12 rfl Try.ntmps12 (args := [hv V m]) (by simp) ?_
  have L := Below.refl w.heap.size w
  refine E.CG.seq ?_
  refine E.CG.list ?_
  refine E.GL.st rfl rfl rfl (E.ST.box rfl rfl fun g1 w1 e1 b1 l1 => ?_)
  have h1_L : w.heap.size ≤ g1 := by rw [e1]; exact L.size
  replace L := below_step L l1
  refine E.GL.run rfl rfl rfl (E.Runs.assign rfl rfl) ?_
  refine E.GL.done ?_
  refine E.QG.code ?_
  refine E.CG.seq ?_
  refine E.CG.list ?_
  refine E.GL.run rfl rfl rfl (E.Runs.loads (cs := [.slice m.A V.ps.length m.a, .slice m.B V.qs.length m.b, .slice m.C V.ts.length m.c, .slice m.D V.cs.length m.d]) rfl rfl hu25 rfl info25s (blk_cells b1)) ?_
  by_cases h4 : farV V
  · refine E.GL.st rfl rfl rfl (E.ST.call rfl ent20 (E.evc rfl E.evn) ((far_calls V m _ (hV.below L) true (iff_of_true rfl h4)).mono ?_))
    rintro e w4 ⟨rfl, l4⟩
    refine ⟨_, rfl, ?_⟩
    replace b1 := blk_below b1 l4
    replace L := below_step L l4
    refine E.GL.run rfl rfl rfl (E.Runs.not rfl rfl) ?_
    refine E.GL.run rfl rfl rfl (E.Runs.move rfl rfl) ?_
    refine E.GL.skip rfl rfl rfl ?_
    refine E.GL.skip rfl rfl rfl ?_
    refine E.GL.skip rfl rfl rfl ?_
    refine E.GL.run rfl rfl rfl (E.Runs.pick_f rfl rfl rfl) ?_
    refine E.GL.run rfl rfl rfl (E.Runs.assign rfl rfl) ?_
    refine E.GL.done ?_
    refine E.QG.code ?_
    refine E.CG.ret ?_
    exact E.QG.result rfl rfl ⟨by rw [bool_no hr (fun k => k.1 h4)], L⟩
  · refine E.GL.st rfl rfl rfl (E.ST.call rfl ent20 (E.evc rfl E.evn) ((far_calls V m _ (hV.below L) false (iff_of_false Bool.false_ne_true h4)).mono ?_))
    rintro e w4 ⟨rfl, l4⟩
    refine ⟨_, rfl, ?_⟩
    replace b1 := blk_below b1 l4
    replace L := below_step L l4
    refine E.GL.run rfl rfl rfl (E.Runs.not rfl rfl) ?_
    refine E.GL.run rfl rfl rfl (E.Runs.move rfl rfl) ?_
    refine E.GL.run rfl rfl rfl (E.Runs.loads (cs := [.slice m.A V.ps.length m.a, .slice m.B V.qs.length m.b, .slice m.C V.ts.length m.c, .slice m.D V.cs.length m.d]) rfl rfl hu25 rfl info25s (blk_cells b1)) ?_
    refine E.GL.st rfl rfl rfl (E.ST.call rfl ent34 (E.evc rfl E.evn) ((check34 V m _ (hV.below L) (not_far h4)).mono ?_))
    rintro e w8 ⟨rfl, l8⟩
    refine ⟨_, rfl, ?_⟩
    replace b1 := blk_below b1 l8
    replace L := below_step L l8
    refine E.GL.cmp rfl rfl rfl (fun _ h => (E.Runs.eql rfl rfl rfl h)) (fun h9 => ?_) (fun h9 => ?_)
    · refine E.GL.run rfl rfl rfl (E.Runs.pick_t rfl rfl rfl) ?_
      refine E.GL.run rfl rfl rfl (E.Runs.assign rfl rfl) ?_
      refine E.GL.done ?_
      refine E.QG.code ?_
      refine E.CG.ret ?_
      exact E.QG.result rfl rfl ⟨by rw [hr.mpr (⟨h4, chkV_ok.mp h9⟩)], L⟩
    · refine E.GL.run rfl rfl rfl (E.Runs.pick_t rfl rfl rfl) ?_
      refine E.GL.run rfl rfl rfl (E.Runs.assign rfl rfl) ?_
      refine E.GL.done ?_
      refine E.QG.code ?_
      refine E.CG.ret ?_
      exact E.QG.result rfl rfl ⟨by rw [bool_no hr (fun k => h9 (chkV_ok.mpr k.2))], L⟩

end Go.Proofs.Ytiplichdhcmjdaa.T
namespace Go.Proofs.Ytiplichdhcmjdaa.T
open Go.RowKit Go.Proofs.YtiplichdhcmjdaaW.PrintWords Go.Proofs.YtiplichdhcmjdaaW.PrintMore
open Go.Proofs.Ytiplichdhcmjdaa.P
set_option linter.unusedVariables false
set_option linter.unusedSimpArgs false

theorem Cs.leave {w0 wS w w' : World} {V : Ev} {m : Ea} {c : S40} {a0 : Option Addr} {k0 g2 g3 g5 g6 : Nat} {v v' : Value} {xs ys : List S69} (h : Cs w0 wS w V m c a0 k0 g2 g3 g5 g6 v xs) (k : Cs w0 w w' V m c a0 k0 g2 g3 g5 g6 v' ys) : Cs w0 wS w' V m c a0 k0 g2 g3 g5 g6 v' ys :=
  ⟨k.b2, k.b3, k.b5, k.b6, k.row, k.h5, k.bel, h.sz0, Nat.le_trans h.szS k.szS, h.calm.trans k.calm⟩
/-- append to the row that stands in a cell. -/
theorem Cs.appended {w0 wS w w1 w2 : World} {V : Ev} {m : Ea} {c : S40} {a0 : Option Addr} {k0 g2 g3 g5 g6 : Nat} {v v' : Value} {xs ys : List S69} (h : Cs w0 wS w V m c a0 k0 g2 g3 g5 g6 v xs) (r : Kd.R k69 69 w1 w0.heap.size (fun _ => True) v' ys) (k : Below w0.heap.size w0 w1) (hg : w.grownBy w1 v.ownBlock) (hs : w1.grownBy w2 (some g5)) (hb : w2.heap[g5]? = some (.cells #[v'] 72 (0, 0))) : Cs w0 wS w2 V m c a0 k0 g2 g3 g5 g6 v' ys := by
  have e2 := blk_grown h.b2 hg (Kd.R_ne h.row h.b2 (by decide))
  have e3 := blk_grown h.b3 hg (Kd.R_ne h.row h.b3 (by decide))
  have e5 := blk_grown h.b5 hg (Kd.R_ne h.row h.b5 (by decide))
  have e6 := blk_grown h.b6 hg (Kd.R_ne h.row h.b6 (by decide))
  refine ⟨blk_grown e2 hs (E.nes (blk_ne e2 e5 (by decide))), blk_grown e3 hs (E.nes (blk_ne e3 e5 (by decide))), hb, blk_grown e6 hs (E.nes (blk_ne e6 e5 (by decide))), Kd.R_grown1 r rfl hs (Kd.R_ne r e5 (by decide)), h.h5, E.below_own k h.h5 hs, h.sz0, Nat.le_trans h.szS (Nat.le_trans hg.size hs.size), fun i cs' q f hi q1 q2 => ?_⟩
  have h1 := h.calm i cs' q f hi q1 q2
  have h2 : w1.heap[i]? = some (.cells cs' q f) := (hg.block i (Array.getElem?_eq_some_iff.1 h1).1 (fun e => by
    obtain ⟨_, inner, ho, _⟩ := h.row
    obtain ⟨cells, hc⟩ := own_typed ho i e.symm
    rw [h1] at hc
    cases hc
    exact q1 rfl)).trans h1
  exact (hs.block i (Array.getElem?_eq_some_iff.1 h2).1 (fun e => by
    injection e with e
    subst e
    rw [h2] at e5
    cases e5
    exact q2 rfl)).trans h2
def pfx (V : Ev) (c : S40) (n k s : Nat) (b : Bl) (left i : Nat) : List S69 := (List.range i).flatMap (fun (j : Nat) => chR V c n k (b.set s j) (left - j))
theorem pfx_next (V : Ev) (c : S40) (n k s : Nat) (b : Bl) (left i : Nat) : pfx V c n k s b left (i + 1) = pfx V c n k s b left i ++ chR V c n k (b.set s i) (left - i) := by
  unfold pfx
  rw [List.range_succ, List.flatMap_append]
  simp
theorem chR_len (V : Ev) (c : S40) (n : Nat) : ∀ (k : Nat) (b : Bl) (left : Nat), left ≤ 20 → (chR V c n k b left).length ≤ 21 ^ k
  | 0, b, left, _ => by simp [chR]
  | k + 1, b, left, h => by
    rw [chR]
    have : ∀ i, i ≤ 21 → ((List.range i).flatMap (fun (j : Nat) => chR V c n k (b.set (n - 1 - (k + 1)) j) (left - j))).length ≤ i * 21 ^ k := by
      intro i hi
      induction i with
      | zero => simp
      | succ i ih =>
        have h1 := ih (by omega)
        have h2 := chR_len V c n k (b.set (n - 1 - (k + 1)) i) (left - i) (by omega)
        rw [List.range_succ, List.flatMap_append, List.length_append]
        simp only [List.flatMap_cons, List.flatMap_nil, List.append_nil]
        rw [Nat.add_mul, Nat.one_mul]
        omega
    have h1 := this (left + 1) (by omega)
    have h2 : (left + 1) * 21 ^ k ≤ 21 * 21 ^ k := Nat.mul_le_mul_right _ (by omega)
    rw [Nat.pow_succ, Nat.mul_comm (21 ^ k)]
    omega
theorem pfx_len (V : Ev) (c : S40) (n k s : Nat) (b : Bl) {left : Nat} (hl : left ≤ 20) : ∀ i, i ≤ 21 → (pfx V c n k s b left i).length ≤ i * 21 ^ k
  | 0, _ => by simp [pfx]
  | i + 1, hi => by
    have h1 := pfx_len V c n k s b hl i (by omega)
    have h2 := chR_len V c n k (b.set s i) (left - i) (by omega)
    rw [pfx_next, List.length_append, Nat.add_mul, Nat.one_mul]
    omega
theorem set_set (b : Bl) (s : Nat) (x y : Int) : (b.set s x).set s y = b.set s y := by
  unfold Bl.set
  by_cases h0 : s = 0
  · simp [h0]
  · by_cases h1 : s = 1 <;> simp [h0, h1]
theorem small_set {b : Bl} {s : Nat} {x m : Int} (h : SmallB b m) (hs : s < 3) (h0 : 0 ≤ x) (h1 : x ≤ m) : SmallB (b.set s x) m := by
  intro i hi
  by_cases e : i = s
  · subst e; rw [get_set_self b hi]; exact ⟨h0, h1⟩
  · rw [get_set_ne b hs hi e]; exact h i hi
set_option maxRecDepth 100000 in
theorem build69 (b : Bl) (W : World) : (Instr.build 69 #[(0, .agg #[.int .i64 b.f0, .int .i64 b.f1, .int .i64 b.f2])]).run Try.prog W = .ok (.agg #[.int .i64 b.f0, .int .i64 b.f1, .int .i64 b.f2, .int .i64 0]) W := by
  have hu3 := Try.underlying3
  have hu59 := Try.underlying59
  have hu69 := Try.underlying69
  go_simp
set_option maxRecDepth 100000 in
theorem lit72 (x : S69) (W : World) : (Instr.buildSlice 72 1 #[(0, .agg #[.int .i64 x.f0, .int .i64 x.f1, .int .i64 x.f2, .int .i64 x.f3])]).run Try.prog W = .ok (.slice (some ⟨W.heap.size, 0, none⟩) 1 1) (W.alloc (.cells #[.int .i64 x.f0, .int .i64 x.f1, .int .i64 x.f2, .int .i64 x.f3] 69 (0, 0))) := by
  have hu72 := Try.underlying72
  go_simp
theorem info69 : (Try.prog.info? 69).map (fun i => (i.zero, i.size, i.bytes)) = some (some (.agg #[.int .i64 0, .int .i64 0, .int .i64 0, .int .i64 0]), 4, 32) := by kernel_rfl
theorem four_one' (a b c d : Int) : (#[.int .i64 a, .int .i64 b, .int .i64 c, .int .i64 d] : Array Value).all (·.oneCell') = true := by simp [Value.oneCell']
def MoreC (w0 : World) (V : Ev) (m : Ea) (c : S40) (a0 : Option Addr) (k0 g2 g3 g5 g6 k : Nat) : Prop :=
  ∀ (s : Nat) (b : Bl) (left : Nat) (xs : List S69) (v : Value) (w : World), s + k + 1 = V.ps.length → SmallB b 20 → left ≤ 20 → xs.length + 21 ^ k ≤ 1000000 → Cs w0 w w V m c a0 k0 g2 g3 g5 g6 v xs →
    Calls Try.prog 82 #[bv b, .int .i64 s, .int .i64 left, .pointer (some ⟨g2, 0, none⟩), .pointer (some ⟨g3, 0, none⟩), .pointer (some ⟨g5, 0, none⟩), .pointer (some ⟨g6, 0, none⟩)] w fun e w' => e = .returned (.tuple #[]) ∧ ∃ v', Cs w0 w w' V m c a0 k0 g2 g3 g5 g6 v' (xs ++ chR V c V.ps.length k b left)
set_option maxRecDepth 100000 in
set_option maxHeartbeats 8000000 in

theorem more_step (w0 : World) (V : Ev) (m : Ea) (c : S40) (a0 : Option Addr) (k0 g2 g3 g5 g6 k : Nat) (hV : EvM w0 V m) (hx0 : Kd.C kI w0 a0 c.f0.length c.f0) (ok : VOk V) (hc : COk V.ps.length c) (ih : ∀ j, j < k → MoreC w0 V m c a0 k0 g2 g3 g5 g6 j) : MoreC w0 V m c a0 k0 g2 g3 g5 g6 k := by
  intro s b left xs v w hsk hb hl hxl hM
  have hn3 := ok.n3
  have hs3 : s < 3 := by omega
  obtain ⟨q1, q2, q3, q4, q5, q6, q7, q8⟩ := hc
  have hu3 := Try.underlying3
  have hu22 := Try.underlying22
  have hu25 := Try.underlying25
  have hu40 := Try.underlying40
  have hu59 := Try.underlying59
  have hu69 := Try.underlying69
  have hu72 := Try.underlying72
  have hu103 := Try.underlying103
  obtain ⟨z3, o3⟩ := info_some info3s (by decide)
  obtain ⟨z22, o22⟩ := info_some info22s (by decide)
  obtain ⟨z59, o59⟩ := info_some info59s (by decide)
  obtain ⟨z69, o69⟩ := info_some info69s (by decide)
  obtain ⟨z72, o72⟩ := info_some info72s (by decide)
  refine E.enter (N := 67) Try.func82 rfl Try.ntmps82 (args := [bv b, .int .i64 (s : Int), .int .i64 (left : Int), .pointer (some ⟨g2, 0, none⟩), .pointer (some ⟨g3, 0, none⟩), .pointer (some ⟨g5, 0, none⟩), .pointer (some ⟨g6, 0, none⟩)]) (by simp) ?_
  skip
  refine E.CG.seq ?_
  refine E.CG.list ?_
  refine E.GL.st rfl rfl rfl (E.ST.box rfl rfl fun g7 w7 e7 b7 l7 => ?_)
  replace hM := hM.below l7
  have hs7 : w.heap.size ≤ g7 := by rw [e7]; exact Nat.le_refl _
  refine E.GL.done ?_
  refine E.QG.code ?_
  refine E.CG.seq ?_
  refine E.CG.seq ?_
  refine E.CG.list ?_
  refine E.GL.run rfl rfl rfl (E.Runs.move rfl rfl) ?_
  refine E.GL.run rfl rfl rfl (E.Runs.fieldAddr rfl rfl hu25 rfl (by assumption) rfl) ?_
  refine E.GL.run rfl rfl rfl (E.Runs.load1 rfl rfl hu22 rfl (E.blkc hM.b2 rfl)) ?_
  refine E.GL.run rfl rfl rfl (E.Runs.len rfl rfl hu22) ?_
  refine E.GL.run rfl rfl rfl (E.Runs.sub rfl rfl rfl (IntWalk.i64_in _ (by omega))) ?_
  rcases k with _ | k
  · have hsn : s = V.ps.length - 1 := by omega
    have hxl1 : xs.length + 1 ≤ 1000000 := by simpa using hxl
    have hwo := worth_small (small_set hb hs3 (show (0 : Int) ≤ left by omega) (show (left : Int) ≤ 20 by omega)) ok.p
    refine E.GL.run rfl rfl rfl (E.Runs.eql rfl rfl rfl (decide_eq_true (by omega))) ?_
    refine E.GL.done ?_
    refine E.QG.code ?_
    refine E.CG.cond_t rfl ?_
    refine E.CG.seq ?_
    refine E.CG.list ?_
    refine E.GL.run rfl rfl rfl (E.Runs.move rfl rfl) ?_
    refine E.GL.run rfl rfl rfl (E.Runs.move rfl rfl) ?_
    refine E.GL.run rfl rfl rfl (E.Runs.indexArr rfl rfl rfl hu59 z3 o3 (by omega) (by omega) (show _ = (⟨g7, s, none⟩ : Addr) from by rw [Go.Addr.add_mid]; simp)) ?_
    refine E.GL.sn rfl rfl (E.ST.store rfl z3 o3 rfl rfl b7 (show Nat.blt s 3 = true from by simpa [Nat.blt_eq] using hs3) (show _ = _ from b3_set hs3 _) fun wQ c7 lQ => ?_)
    replace hM := hM.grown lQ ⟨⟨_, _, b7, by decide⟩, Kd.R_ne hM.row b7 (by decide), hs7⟩
    replace b7 := c7
    clear c7 lQ
    
    refine E.GL.done ?_
    refine E.QG.code ?_
    refine E.CG.seq ?_
    refine E.CG.list ?_
    refine E.GL.run rfl rfl rfl (E.Runs.loads (cs := [.int .i64 (b.set s left).f0, .int .i64 (b.set s left).f1, .int .i64 (b.set s left).f2]) rfl rfl hu59 rfl info59s (blk_cells b7)) ?_
    refine E.GL.run rfl rfl rfl (E.Runs.build rfl (E.epc rfl E.epn) (build69 _)) ?_
    have hsz10 := hM.szS
    have hlt10 := fun k => Kd.R_lt hM.row k
    refine E.GL.st rfl rfl rfl (E.ST.alloc rfl info69z fun g10 w10 e10 b10 l10 => ?_)
    have n10_b7 : g7 ≠ g10 := by have := blk_lt b7; omega
    replace b7 := blk_below b7 l10
    replace hM := hM.below l10
    have hr10 : some g10 ≠ v.ownBlock := fun h => by have := hlt10 _ h.symm; omega
    have hs10 : w.heap.size ≤ g10 := by omega
    refine E.GL.store_whole rfl rfl rfl rfl rfl b10 rfl info69s (four_one' _ _ _ _) fun wS3_3 c10 lS3_3 => ?_
    replace b7 := blk_grown b7 lS3_3 (E.nes (by first | assumption | exact Ne.symm (by assumption)))
    replace hM := hM.grown lS3_3 (by first | exact ⟨⟨_, _, b10, by decide⟩, hr10, hs10⟩ | exact ⟨⟨_, _, b7, by decide⟩, Kd.R_ne hM.row b7 (by decide), hs7⟩)
    replace b10 := c10
    clear c10
    refine E.GL.done ?_
    refine E.QG.code ?_
    refine E.CG.seq ?_
    refine E.CG.seq ?_
    refine E.CG.heldH (none) (by kernel_rfl) fun v4 lD hh => ?_
    replace b7 := blk_below b7 lD
    replace b10 := blk_below b10 lD
    replace hM := hM.below lD
    clear lD
    have s_b7 := b7
    have s_b10 := b10
    have s_hM := hM
    refine E.GH.take (i := 0) rfl (by kernel_rfl) (by kernel_rfl) (by kernel_rfl) (by intro c a d v w h; first | (cases d <;> exact h) | exact nomatch (show _ ∧ _ from h).1) rfl rfl rfl (fun w' hS => (E.Runs.loads (cs := [.int .i64 (b.set s left).f0, .int .i64 (b.set s left).f1, .int .i64 (b.set s left).f2]) rfl rfl hu59 rfl info59s (blk_cells (blk_grown s_b7 hS E.nen)))) ?_
    refine E.GH.take (i := 1) rfl (by kernel_rfl) (by kernel_rfl) (by kernel_rfl) (by intro c a d v w h; first | (cases d <;> exact h) | exact nomatch (show _ ∧ _ from h).1) rfl rfl rfl (fun w' hS => (E.Runs.fieldAddr rfl rfl hu40 rfl (by assumption) rfl)) ?_
    refine E.GH.take (i := 2) rfl (by kernel_rfl) (by kernel_rfl) (by kernel_rfl) (by intro c a d v w h; first | (cases d <;> exact h) | exact nomatch (show _ ∧ _ from h).1) rfl rfl rfl (fun w' hS => (E.Runs.load1 rfl rfl hu22 rfl (E.keeps hS (E.blkc s_hM.b3 rfl) E.nen))) ?_
    by_cases h26 : (b.set s left) ≠ bl c.f0
    · refine E.GH.one (i := 3) (by kernel_rfl) rfl ?_
      refine E.GO.st rfl rfl rfl (E.ST.call rfl ent44 (E.evc rfl E.evn) ((said_calls c.f0 a0 k0 _ (Kd.C_below hx0 hM.bel) (by omega)).mono ?_))
      rintro e w26 ⟨rfl, l26⟩
      refine ⟨_, rfl, hh.trans (E.gbB l26), ?_⟩
      replace hh := hh.trans (E.gbB l26)
      replace b7 := blk_below b7 l26
      replace b10 := blk_below b10 l26
      replace hM := hM.below l26
      refine E.GH.take (i := 4) rfl (by kernel_rfl) (by kernel_rfl) (by kernel_rfl) (by intro c a d v w h; first | (cases d <;> exact h) | exact nomatch (show _ ∧ _ from h).1) rfl rfl rfl (fun w' hS => (E.Runs.neqv rfl rfl rfl rfl (fun _ _ W => run_eqGuard_agg W _ _ _ _ _ _ Try.eqGuardType59) (bv_equal _ _) (show _ = true from by rw [decide_eq_false h26]; rfl))) ?_
      refine E.GH.done (by kernel_rfl) ?_
      refine E.QG.code ?_
      refine E.CG.cond_t rfl ?_
      refine E.CG.list ?_
      refine E.GL.run rfl rfl rfl (E.Runs.fieldAddr rfl rfl hu69 rfl (by assumption) rfl) ?_
      refine E.GL.run rfl rfl rfl (E.Runs.load rfl rfl hu3 (by first | assumption | exact E.blkc (by assumption) rfl)) ?_
      refine E.GL.run rfl rfl rfl (E.Runs.add rfl rfl rfl (IntWalk.i64_in _ (by omega))) ?_
      refine E.GL.run rfl rfl rfl (E.Runs.fieldAddr rfl rfl hu69 rfl (by assumption) rfl) ?_
      refine E.GL.sn rfl rfl (E.ST.store rfl (by assumption) (by assumption) rfl rfl b10 rfl rfl fun wS5_4 c10 lS5_4 => ?_)
      replace b7 := blk_grown b7 lS5_4 (E.nes (by first | assumption | exact Ne.symm (by assumption)))
      replace hM := hM.grown lS5_4 (by first | exact ⟨⟨_, _, b10, by decide⟩, hr10, hs10⟩ | exact ⟨⟨_, _, b7, by decide⟩, Kd.R_ne hM.row b7 (by decide), hs7⟩)
      replace b10 := c10
      clear c10
      refine E.GL.done ?_
      refine E.QG.code ?_
      refine E.CG.seq ?_
      refine E.CG.seq ?_
      refine E.CG.heldH (none) (by kernel_rfl) fun v6 lD hh => ?_
      replace b7 := blk_below b7 lD
      replace b10 := blk_below b10 lD
      replace hM := hM.below lD
      clear lD
      have s_b7 := b7
      have s_b10 := b10
      have s_hM := hM
      refine E.GH.take (i := 0) rfl (by kernel_rfl) (by kernel_rfl) (by kernel_rfl) (by intro c a d v w h; first | (cases d <;> exact h) | exact nomatch (show _ ∧ _ from h).1) rfl rfl rfl (fun w' hS => (E.Runs.fieldAddr rfl rfl hu40 rfl (by assumption) rfl)) ?_
      refine E.GH.take (i := 1) rfl (by kernel_rfl) (by kernel_rfl) (by kernel_rfl) (by intro c a d v w h; first | (cases d <;> exact h) | exact nomatch (show _ ∧ _ from h).1) rfl rfl rfl (fun w' hS => (E.Runs.load rfl rfl hu3 (E.keeps hS (E.blkc s_hM.b3 rfl) E.nen))) ?_
      refine E.GH.take (i := 2) rfl (by kernel_rfl) (by kernel_rfl) (by kernel_rfl) (by intro c a d v w h; first | (cases d <;> exact h) | exact nomatch (show _ ∧ _ from h).1) rfl rfl rfl (fun w' hS => (E.Runs.fieldAddr rfl rfl hu40 rfl (by assumption) rfl)) ?_
      refine E.GH.take (i := 3) rfl (by kernel_rfl) (by kernel_rfl) (by kernel_rfl) (by intro c a d v w h; first | (cases d <;> exact h) | exact nomatch (show _ ∧ _ from h).1) rfl rfl rfl (fun w' hS => (E.Runs.load rfl rfl hu3 (E.keeps hS (E.blkc s_hM.b3 rfl) E.nen))) ?_
      refine E.GH.take (i := 4) rfl (by kernel_rfl) (by kernel_rfl) (by kernel_rfl) (by intro c a d v w h; first | (cases d <;> exact h) | exact nomatch (show _ ∧ _ from h).1) rfl rfl rfl (fun w' hS => (E.Runs.loads (cs := [.int .i64 (b.set s left).f0, .int .i64 (b.set s left).f1, .int .i64 (b.set s left).f2]) rfl rfl hu59 rfl info59s (blk_cells (blk_grown s_b7 hS E.nen)))) ?_
      refine E.GH.take (i := 5) rfl (by kernel_rfl) (by kernel_rfl) (by kernel_rfl) (by intro c a d v w h; first | (cases d <;> exact h) | exact nomatch (show _ ∧ _ from h).1) rfl rfl rfl (fun w' hS => (E.Runs.fieldAddr rfl rfl hu25 rfl (by assumption) rfl)) ?_
      refine E.GH.take (i := 6) rfl (by kernel_rfl) (by kernel_rfl) (by kernel_rfl) (by intro c a d v w h; first | (cases d <;> exact h) | exact nomatch (show _ ∧ _ from h).1) rfl rfl rfl (fun w' hS => (E.Runs.load1 rfl rfl hu22 rfl (E.keeps hS (E.blkc s_hM.b2 rfl) E.nen))) ?_
      refine E.GH.one (i := 7) (by kernel_rfl) rfl ?_
      refine E.GO.st rfl rfl rfl (E.ST.call rfl ent47 (E.evc rfl (E.evc rfl E.evn)) ((worth_calls (b.set s left) V.ps m.A m.a _ (hV.below hM.bel).ps hn3 (fun x hx => by have := ok.p x hx; omega) ((small_set hb hs3 (by omega) (by omega)).up (by decide))).mono ?_))
      rintro e w39 ⟨rfl, l39⟩
      refine ⟨_, rfl, hh.trans (E.gbB l39), ?_⟩
      replace hh := hh.trans (E.gbB l39)
      replace b7 := blk_below b7 l39
      replace b10 := blk_below b10 l39
      replace hM := hM.below l39
      refine E.GH.take (i := 8) rfl (by kernel_rfl) (by kernel_rfl) (by kernel_rfl) (by intro c a d v w h; first | (cases d <;> exact h) | exact nomatch (show _ ∧ _ from h).1) rfl rfl rfl (fun w' hS => (E.Runs.add rfl rfl rfl (IntWalk.i64_in _ (by omega)))) ?_
      refine E.GH.cmpn (i := 9) rfl (by kernel_rfl) (by kernel_rfl) (by kernel_rfl) (by intro c a d v w h; first | (cases d <;> exact h) | exact nomatch (show _ ∧ _ from h).1) rfl rfl rfl (fun _ h w' hS => (E.Runs.neq rfl rfl rfl h)) (fun h41 => ?_) (fun h41 => ?_)
      · refine E.GH.done (by kernel_rfl) ?_
        refine E.QG.code ?_
        refine E.CG.cond_t rfl ?_
        refine E.CG.list ?_
        refine E.GL.run rfl rfl rfl (E.Runs.fieldAddr rfl rfl hu69 rfl (by assumption) rfl) ?_
        refine E.GL.run rfl rfl rfl (E.Runs.load rfl rfl hu3 (by first | assumption | exact E.blkc (by assumption) rfl)) ?_
        refine E.GL.run rfl rfl rfl (E.Runs.add rfl rfl rfl (IntWalk.i64_in _ (by omega))) ?_
        refine E.GL.run rfl rfl rfl (E.Runs.fieldAddr rfl rfl hu69 rfl (by assumption) rfl) ?_
        refine E.GL.sn rfl rfl (E.ST.store rfl (by assumption) (by assumption) rfl rfl b10 rfl rfl fun wS7_4 c10 lS7_4 => ?_)
        replace b7 := blk_grown b7 lS7_4 (E.nes (by first | assumption | exact Ne.symm (by assumption)))
        replace hM := hM.grown lS7_4 (by first | exact ⟨⟨_, _, b10, by decide⟩, hr10, hs10⟩ | exact ⟨⟨_, _, b7, by decide⟩, Kd.R_ne hM.row b7 (by decide), hs7⟩)
        replace b10 := c10
        clear c10
        refine E.GL.done ?_
        refine E.QG.code ?_
        refine E.CG.seq ?_
        first | (rw [show ((0 : Int) + 1 + 1) = fl V c (b.set s left) from (by unfold fl flK flM due; rw [if_neg h26, if_neg h41] <;> rfl)] at b10) | (rw [show ((0 : Int) + 1) = fl V c (b.set s left) from (by unfold fl flK flM due; first | (rw [if_neg h26, if_pos h41] <;> rfl) | (rw [if_pos (Decidable.not_not.mp h26), if_neg h41] <;> rfl))] at b10) | (rw [show (0 : Int) = fl V c (b.set s left) from (by unfold fl flK flM due; rw [if_pos (Decidable.not_not.mp h26), if_pos h41] <;> rfl)] at b10)
        refine E.CG.list ?_
        refine E.GL.run rfl rfl rfl (E.Runs.load1 rfl rfl hu72 rfl (E.blkc hM.b5 rfl)) ?_
        refine E.GL.run rfl rfl rfl (E.Runs.loads (cs := [.int .i64 (b.set s left).f0, .int .i64 (b.set s left).f1, .int .i64 (b.set s left).f2, .int .i64 (fl V c (b.set s left))]) rfl rfl hu69 rfl info69s (blk_cells b10)) ?_
        refine E.GL.st rfl rfl rfl (E.ST.lit rfl (E.epc rfl E.epn) (lit72 (mkC V c (b.set s left))) ?_)
        have hMa := hM
        refine E.GL.st rfl rfl rfl (E.ST.append k69 w0.heap.size (w0 := w0) (s := .tmp 46) (x := .tmp 48) rfl hu72 info69 rfl (by decide) (by decide) (mkC V c (b.set s left)) rfl rfl (k69_mkM _ _ _ _) (fun _ _ => trivial) hM.row hM.bel (Nat.le_trans hM.sz0 hM.szS) (by omega) fun u49 w49 r49 k49 gr49 => ?_)
        obtain ⟨A49, c49, hu49⟩ := Kd.R_slice r49
        subst hu49
        refine E.GL.sn rfl rfl (E.ST.storeSl (cs := [v]) rfl z72 o72 rfl rfl (blk_grown hMa.b5 gr49 (Kd.R_ne hMa.row hMa.b5 (by decide))) rfl rfl fun wS8 cS8 lS8 => ?_)
        have hM1 := hMa.appended r49 k49 gr49 lS8 cS8
        clear hM hMa
        refine E.GL.done ?_
        refine E.QG.code ?_
        refine E.CG.ret ?_
        refine E.QG.pass_ret ?_
        exact E.QG.result0 rfl ⟨rfl, _, by rw [chR, ← hsn]; exact hM1⟩
      · refine E.GH.done (by kernel_rfl) ?_
        refine E.QG.code ?_
        refine E.CG.cond_f rfl ?_
        refine E.CG.skip ?_
        refine E.QG.code ?_
        refine E.CG.seq ?_
        first | (rw [show ((0 : Int) + 1 + 1) = fl V c (b.set s left) from (by unfold fl flK flM due; rw [if_neg h26, if_neg h41] <;> rfl)] at b10) | (rw [show ((0 : Int) + 1) = fl V c (b.set s left) from (by unfold fl flK flM due; first | (rw [if_neg h26, if_pos h41] <;> rfl) | (rw [if_pos (Decidable.not_not.mp h26), if_neg h41] <;> rfl))] at b10) | (rw [show (0 : Int) = fl V c (b.set s left) from (by unfold fl flK flM due; rw [if_pos (Decidable.not_not.mp h26), if_pos h41] <;> rfl)] at b10)
        refine E.CG.list ?_
        refine E.GL.run rfl rfl rfl (E.Runs.load1 rfl rfl hu72 rfl (E.blkc hM.b5 rfl)) ?_
        refine E.GL.run rfl rfl rfl (E.Runs.loads (cs := [.int .i64 (b.set s left).f0, .int .i64 (b.set s left).f1, .int .i64 (b.set s left).f2, .int .i64 (fl V c (b.set s left))]) rfl rfl hu69 rfl info69s (blk_cells b10)) ?_
        refine E.GL.st rfl rfl rfl (E.ST.lit rfl (E.epc rfl E.epn) (lit72 (mkC V c (b.set s left))) ?_)
        have hMa := hM
        refine E.GL.st rfl rfl rfl (E.ST.append k69 w0.heap.size (w0 := w0) (s := .tmp 46) (x := .tmp 48) rfl hu72 info69 rfl (by decide) (by decide) (mkC V c (b.set s left)) rfl rfl (k69_mkM _ _ _ _) (fun _ _ => trivial) hM.row hM.bel (Nat.le_trans hM.sz0 hM.szS) (by omega) fun u49 w49 r49 k49 gr49 => ?_)
        obtain ⟨A49, c49, hu49⟩ := Kd.R_slice r49
        subst hu49
        refine E.GL.sn rfl rfl (E.ST.storeSl (cs := [v]) rfl z72 o72 rfl rfl (blk_grown hMa.b5 gr49 (Kd.R_ne hMa.row hMa.b5 (by decide))) rfl rfl fun wS8 cS8 lS8 => ?_)
        have hM1 := hMa.appended r49 k49 gr49 lS8 cS8
        clear hM hMa
        refine E.GL.done ?_
        refine E.QG.code ?_
        refine E.CG.ret ?_
        refine E.QG.pass_ret ?_
        exact E.QG.result0 rfl ⟨rfl, _, by rw [chR, ← hsn]; exact hM1⟩
    · refine E.GH.one (i := 3) (by kernel_rfl) rfl ?_
      refine E.GO.st rfl rfl rfl (E.ST.call rfl ent44 (E.evc rfl E.evn) ((said_calls c.f0 a0 k0 _ (Kd.C_below hx0 hM.bel) (by omega)).mono ?_))
      rintro e w26 ⟨rfl, l26⟩
      refine ⟨_, rfl, hh.trans (E.gbB l26), ?_⟩
      replace hh := hh.trans (E.gbB l26)
      replace b7 := blk_below b7 l26
      replace b10 := blk_below b10 l26
      replace hM := hM.below l26
      refine E.GH.take (i := 4) rfl (by kernel_rfl) (by kernel_rfl) (by kernel_rfl) (by intro c a d v w h; first | (cases d <;> exact h) | exact nomatch (show _ ∧ _ from h).1) rfl rfl rfl (fun w' hS => (E.Runs.neqv rfl rfl rfl rfl (fun _ _ W => run_eqGuard_agg W _ _ _ _ _ _ Try.eqGuardType59) (bv_equal _ _) (show _ = false from by rw [decide_eq_true (Decidable.not_not.mp h26)]; rfl))) ?_
      refine E.GH.done (by kernel_rfl) ?_
      refine E.QG.code ?_
      refine E.CG.cond_f rfl ?_
      refine E.CG.skip ?_
      refine E.QG.code ?_
      refine E.CG.seq ?_
      refine E.CG.seq ?_
      refine E.CG.heldH (none) (by kernel_rfl) fun v6 lD hh => ?_
      replace b7 := blk_below b7 lD
      replace b10 := blk_below b10 lD
      replace hM := hM.below lD
      clear lD
      have s_b7 := b7
      have s_b10 := b10
      have s_hM := hM
      refine E.GH.take (i := 0) rfl (by kernel_rfl) (by kernel_rfl) (by kernel_rfl) (by intro c a d v w h; first | (cases d <;> exact h) | exact nomatch (show _ ∧ _ from h).1) rfl rfl rfl (fun w' hS => (E.Runs.fieldAddr rfl rfl hu40 rfl (by assumption) rfl)) ?_
      refine E.GH.take (i := 1) rfl (by kernel_rfl) (by kernel_rfl) (by kernel_rfl) (by intro c a d v w h; first | (cases d <;> exact h) | exact nomatch (show _ ∧ _ from h).1) rfl rfl rfl (fun w' hS => (E.Runs.load rfl rfl hu3 (E.keeps hS (E.blkc s_hM.b3 rfl) E.nen))) ?_
      refine E.GH.take (i := 2) rfl (by kernel_rfl) (by kernel_rfl) (by kernel_rfl) (by intro c a d v w h; first | (cases d <;> exact h) | exact nomatch (show _ ∧ _ from h).1) rfl rfl rfl (fun w' hS => (E.Runs.fieldAddr rfl rfl hu40 rfl (by assumption) rfl)) ?_
      refine E.GH.take (i := 3) rfl (by kernel_rfl) (by kernel_rfl) (by kernel_rfl) (by intro c a d v w h; first | (cases d <;> exact h) | exact nomatch (show _ ∧ _ from h).1) rfl rfl rfl (fun w' hS => (E.Runs.load rfl rfl hu3 (E.keeps hS (E.blkc s_hM.b3 rfl) E.nen))) ?_
      refine E.GH.take (i := 4) rfl (by kernel_rfl) (by kernel_rfl) (by kernel_rfl) (by intro c a d v w h; first | (cases d <;> exact h) | exact nomatch (show _ ∧ _ from h).1) rfl rfl rfl (fun w' hS => (E.Runs.loads (cs := [.int .i64 (b.set s left).f0, .int .i64 (b.set s left).f1, .int .i64 (b.set s left).f2]) rfl rfl hu59 rfl info59s (blk_cells (blk_grown s_b7 hS E.nen)))) ?_
      refine E.GH.take (i := 5) rfl (by kernel_rfl) (by kernel_rfl) (by kernel_rfl) (by intro c a d v w h; first | (cases d <;> exact h) | exact nomatch (show _ ∧ _ from h).1) rfl rfl rfl (fun w' hS => (E.Runs.fieldAddr rfl rfl hu25 rfl (by assumption) rfl)) ?_
      refine E.GH.take (i := 6) rfl (by kernel_rfl) (by kernel_rfl) (by kernel_rfl) (by intro c a d v w h; first | (cases d <;> exact h) | exact nomatch (show _ ∧ _ from h).1) rfl rfl rfl (fun w' hS => (E.Runs.load1 rfl rfl hu22 rfl (E.keeps hS (E.blkc s_hM.b2 rfl) E.nen))) ?_
      refine E.GH.one (i := 7) (by kernel_rfl) rfl ?_
      refine E.GO.st rfl rfl rfl (E.ST.call rfl ent47 (E.evc rfl (E.evc rfl E.evn)) ((worth_calls (b.set s left) V.ps m.A m.a _ (hV.below hM.bel).ps hn3 (fun x hx => by have := ok.p x hx; omega) ((small_set hb hs3 (by omega) (by omega)).up (by decide))).mono ?_))
      rintro e w39 ⟨rfl, l39⟩
      refine ⟨_, rfl, hh.trans (E.gbB l39), ?_⟩
      replace hh := hh.trans (E.gbB l39)
      replace b7 := blk_below b7 l39
      replace b10 := blk_below b10 l39
      replace hM := hM.below l39
      refine E.GH.take (i := 8) rfl (by kernel_rfl) (by kernel_rfl) (by kernel_rfl) (by intro c a d v w h; first | (cases d <;> exact h) | exact nomatch (show _ ∧ _ from h).1) rfl rfl rfl (fun w' hS => (E.Runs.add rfl rfl rfl (IntWalk.i64_in _ (by omega)))) ?_
      refine E.GH.cmpn (i := 9) rfl (by kernel_rfl) (by kernel_rfl) (by kernel_rfl) (by intro c a d v w h; first | (cases d <;> exact h) | exact nomatch (show _ ∧ _ from h).1) rfl rfl rfl (fun _ h w' hS => (E.Runs.neq rfl rfl rfl h)) (fun h41 => ?_) (fun h41 => ?_)
      · refine E.GH.done (by kernel_rfl) ?_
        refine E.QG.code ?_
        refine E.CG.cond_t rfl ?_
        refine E.CG.list ?_
        refine E.GL.run rfl rfl rfl (E.Runs.fieldAddr rfl rfl hu69 rfl (by assumption) rfl) ?_
        refine E.GL.run rfl rfl rfl (E.Runs.load rfl rfl hu3 (by first | assumption | exact E.blkc (by assumption) rfl)) ?_
        refine E.GL.run rfl rfl rfl (E.Runs.add rfl rfl rfl (IntWalk.i64_in _ (by omega))) ?_
        refine E.GL.run rfl rfl rfl (E.Runs.fieldAddr rfl rfl hu69 rfl (by assumption) rfl) ?_
        refine E.GL.sn rfl rfl (E.ST.store rfl (by assumption) (by assumption) rfl rfl b10 rfl rfl fun wS7_4 c10 lS7_4 => ?_)
        replace b7 := blk_grown b7 lS7_4 (E.nes (by first | assumption | exact Ne.symm (by assumption)))
        replace hM := hM.grown lS7_4 (by first | exact ⟨⟨_, _, b10, by decide⟩, hr10, hs10⟩ | exact ⟨⟨_, _, b7, by decide⟩, Kd.R_ne hM.row b7 (by decide), hs7⟩)
        replace b10 := c10
        clear c10
        refine E.GL.done ?_
        refine E.QG.code ?_
        refine E.CG.seq ?_
        first | (rw [show ((0 : Int) + 1 + 1) = fl V c (b.set s left) from (by unfold fl flK flM due; rw [if_neg h26, if_neg h41] <;> rfl)] at b10) | (rw [show ((0 : Int) + 1) = fl V c (b.set s left) from (by unfold fl flK flM due; first | (rw [if_neg h26, if_pos h41] <;> rfl) | (rw [if_pos (Decidable.not_not.mp h26), if_neg h41] <;> rfl))] at b10) | (rw [show (0 : Int) = fl V c (b.set s left) from (by unfold fl flK flM due; rw [if_pos (Decidable.not_not.mp h26), if_pos h41] <;> rfl)] at b10)
        refine E.CG.list ?_
        refine E.GL.run rfl rfl rfl (E.Runs.load1 rfl rfl hu72 rfl (E.blkc hM.b5 rfl)) ?_
        refine E.GL.run rfl rfl rfl (E.Runs.loads (cs := [.int .i64 (b.set s left).f0, .int .i64 (b.set s left).f1, .int .i64 (b.set s left).f2, .int .i64 (fl V c (b.set s left))]) rfl rfl hu69 rfl info69s (blk_cells b10)) ?_
        refine E.GL.st rfl rfl rfl (E.ST.lit rfl (E.epc rfl E.epn) (lit72 (mkC V c (b.set s left))) ?_)
        have hMa := hM
        refine E.GL.st rfl rfl rfl (E.ST.append k69 w0.heap.size (w0 := w0) (s := .tmp 46) (x := .tmp 48) rfl hu72 info69 rfl (by decide) (by decide) (mkC V c (b.set s left)) rfl rfl (k69_mkM _ _ _ _) (fun _ _ => trivial) hM.row hM.bel (Nat.le_trans hM.sz0 hM.szS) (by omega) fun u49 w49 r49 k49 gr49 => ?_)
        obtain ⟨A49, c49, hu49⟩ := Kd.R_slice r49
        subst hu49
        refine E.GL.sn rfl rfl (E.ST.storeSl (cs := [v]) rfl z72 o72 rfl rfl (blk_grown hMa.b5 gr49 (Kd.R_ne hMa.row hMa.b5 (by decide))) rfl rfl fun wS8 cS8 lS8 => ?_)
        have hM1 := hMa.appended r49 k49 gr49 lS8 cS8
        clear hM hMa
        refine E.GL.done ?_
        refine E.QG.code ?_
        refine E.CG.ret ?_
        refine E.QG.pass_ret ?_
        exact E.QG.result0 rfl ⟨rfl, _, by rw [chR, ← hsn]; exact hM1⟩
      · refine E.GH.done (by kernel_rfl) ?_
        refine E.QG.code ?_
        refine E.CG.cond_f rfl ?_
        refine E.CG.skip ?_
        refine E.QG.code ?_
        refine E.CG.seq ?_
        first | (rw [show ((0 : Int) + 1 + 1) = fl V c (b.set s left) from (by unfold fl flK flM due; rw [if_neg h26, if_neg h41] <;> rfl)] at b10) | (rw [show ((0 : Int) + 1) = fl V c (b.set s left) from (by unfold fl flK flM due; first | (rw [if_neg h26, if_pos h41] <;> rfl) | (rw [if_pos (Decidable.not_not.mp h26), if_neg h41] <;> rfl))] at b10) | (rw [show (0 : Int) = fl V c (b.set s left) from (by unfold fl flK flM due; rw [if_pos (Decidable.not_not.mp h26), if_pos h41] <;> rfl)] at b10)
        refine E.CG.list ?_
        refine E.GL.run rfl rfl rfl (E.Runs.load1 rfl rfl hu72 rfl (E.blkc hM.b5 rfl)) ?_
        refine E.GL.run rfl rfl rfl (E.Runs.loads (cs := [.int .i64 (b.set s left).f0, .int .i64 (b.set s left).f1, .int .i64 (b.set s left).f2, .int .i64 (fl V c (b.set s left))]) rfl rfl hu69 rfl info69s (blk_cells b10)) ?_
        refine E.GL.st rfl rfl rfl (E.ST.lit rfl (E.epc rfl E.epn) (lit72 (mkC V c (b.set s left))) ?_)
        have hMa := hM
        refine E.GL.st rfl rfl rfl (E.ST.append k69 w0.heap.size (w0 := w0) (s := .tmp 46) (x := .tmp 48) rfl hu72 info69 rfl (by decide) (by decide) (mkC V c (b.set s left)) rfl rfl (k69_mkM _ _ _ _) (fun _ _ => trivial) hM.row hM.bel (Nat.le_trans hM.sz0 hM.szS) (by omega) fun u49 w49 r49 k49 gr49 => ?_)
        obtain ⟨A49, c49, hu49⟩ := Kd.R_slice r49
        subst hu49
        refine E.GL.sn rfl rfl (E.ST.storeSl (cs := [v]) rfl z72 o72 rfl rfl (blk_grown hMa.b5 gr49 (Kd.R_ne hMa.row hMa.b5 (by decide))) rfl rfl fun wS8 cS8 lS8 => ?_)
        have hM1 := hMa.appended r49 k49 gr49 lS8 cS8
        clear hM hMa
        refine E.GL.done ?_
        refine E.QG.code ?_
        refine E.CG.ret ?_
        refine E.QG.pass_ret ?_
        exact E.QG.result0 rfl ⟨rfl, _, by rw [chR, ← hsn]; exact hM1⟩
  · refine E.GL.run rfl rfl rfl (E.Runs.eql rfl rfl rfl (decide_eq_false (by omega))) ?_
    refine E.GL.done ?_
    refine E.QG.code ?_
    refine E.CG.cond_f rfl ?_
    refine E.CG.skip ?_
    refine E.QG.code ?_
    refine E.CG.seq ?_
    refine E.CG.list ?_
    refine E.GL.run rfl rfl rfl (E.Runs.move rfl rfl) ?_
    refine E.GL.run rfl rfl rfl (E.Runs.add rfl rfl rfl (IntWalk.i64_in _ (by omega))) ?_
    refine E.GL.run rfl rfl rfl (E.Runs.move rfl rfl) ?_
    refine E.GL.done ?_
    refine E.QG.code ?_
    refine E.CG.block ?_
    have s10_b7 := b7
    refine E.CG.loop2 (fun (i : Nat) (v : Value) => [(1, .int .i64 (s : Int)), (2, .int .i64 (left : Int)), (3, .pointer (some ⟨g2, 0, none⟩)), (4, .pointer (some ⟨g3, 0, none⟩)), (5, .pointer (some ⟨g5, 0, none⟩)), (6, .pointer (some ⟨g6, 0, none⟩)), (7, .pointer (some ⟨g7, 0, none⟩)), (51, .int .i64 ((left : Int) + 1)), (52, .int .i64 i)]) (fun i v w' => i ≤ left + 1 ∧ (∃ bb : Bl, (∀ x, bb.set s x = b.set s x) ∧ w'.heap[g7]? = some (.cells #[.int .i64 bb.f0, .int .i64 bb.f1, .int .i64 bb.f2] 59 (0, 0))) ∧ Cs w0 w w' V m c a0 k0 g2 g3 g5 g6 v (xs ++ pfx V c V.ps.length k s b left i)) (fun i v => left + 1 - i) 0 v (E.subc rfl (E.subc rfl (E.subc rfl (E.subc rfl (E.subc rfl (E.subc rfl (E.subc rfl (E.subc rfl (E.subc rfl E.subn))))))))) ⟨Nat.zero_le _, ⟨b, fun _ => rfl, b7⟩, by rw [show pfx V c V.ps.length k s b left 0 = [] from rfl, List.append_nil]; exact hM⟩ ?_
    rintro i v w10 ⟨hi, b7, hM⟩
    refine E.CG.seq ?_
    refine E.CG.list ?_
    refine E.GL.cmp rfl rfl rfl (fun _ h => (E.Runs.lss rfl rfl rfl h)) (fun h53 => ?_) (fun h53 => ?_)
    · obtain ⟨bb, hbb, b7⟩ := b7
      have hlen : (xs ++ pfx V c V.ps.length k s b left i).length + 21 ^ k ≤ 1000000 := by
        have h1 := pfx_len V c V.ps.length k s b hl i (by omega)
        have h2 : (i + 1) * 21 ^ k ≤ 21 * 21 ^ k := Nat.mul_le_mul_right _ (by omega)
        rw [Nat.pow_succ, Nat.mul_comm (21 ^ k)] at hxl
        rw [Nat.add_mul, Nat.one_mul] at h2
        rw [List.length_append]
        omega
      refine E.GL.done ?_
      refine E.QG.code ?_
      refine E.CG.seq ?_
      refine E.CG.cond_t rfl ?_
      refine E.CG.skip ?_
      refine E.QG.code ?_
      refine E.CG.seq ?_
      refine E.CG.block ?_
      refine E.CG.seq ?_
      refine E.CG.list ?_
      refine E.GL.run rfl rfl rfl (E.Runs.move rfl rfl) ?_
      refine E.GL.run rfl rfl rfl (E.Runs.assign rfl rfl) ?_
      refine E.GL.done ?_
      refine E.QG.code ?_
      refine E.CG.seq ?_
      refine E.CG.list ?_
      refine E.GL.run rfl rfl rfl (E.Runs.move rfl rfl) ?_
      refine E.GL.run rfl rfl rfl (E.Runs.move rfl rfl) ?_
      refine E.GL.run rfl rfl rfl (E.Runs.indexArr rfl rfl rfl hu59 z3 o3 (by omega) (by omega) (show _ = (⟨g7, s, none⟩ : Addr) from by rw [Go.Addr.add_mid]; simp)) ?_
      refine E.GL.sn rfl rfl (E.ST.store rfl z3 o3 rfl rfl b7 (show Nat.blt s 3 = true from by simpa [Nat.blt_eq] using hs3) (show _ = _ from b3_set hs3 _) fun wQ c7 lQ => ?_)
      replace hM := hM.grown lQ ⟨⟨_, _, b7, by decide⟩, Kd.R_ne hM.row b7 (by decide), hs7⟩
      replace b7 := c7
      clear c7 lQ
      rw [hbb] at b7
      refine E.GL.done ?_
      refine E.QG.code ?_
      refine E.CG.list ?_
      refine E.GL.run rfl rfl rfl (E.Runs.load1 rfl rfl hu103 rfl (E.blkc hM.b6 rfl)) ?_
      refine E.GL.run rfl rfl rfl (E.Runs.loads (cs := [.int .i64 (b.set s i).f0, .int .i64 (b.set s i).f1, .int .i64 (b.set s i).f2]) rfl rfl hu59 rfl info59s (blk_cells b7)) ?_
      refine E.GL.run rfl rfl rfl (E.Runs.move rfl rfl) ?_
      refine E.GL.run rfl rfl rfl (E.Runs.add rfl rfl rfl (IntWalk.i64_in _ (by omega))) ?_
      refine E.GL.run rfl rfl rfl (E.Runs.move rfl rfl) ?_
      refine E.GL.run rfl rfl rfl (E.Runs.move rfl rfl) ?_
      refine E.GL.run rfl rfl rfl (E.Runs.sub rfl rfl rfl (IntWalk.i64_in _ (by omega))) ?_
      have hih := ih k (Nat.lt_succ_self _) (s + 1) (b.set s i) (left - i) _ _ _ (by omega) (small_set hb hs3 (by omega) (by omega)) (by omega) hlen hM.enter
      rw [show ((s + 1 : Nat) : Int) = (s : Int) + 1 by omega, show ((left - i : Nat) : Int) = (left : Int) - i by omega] at hih
      refine E.GL.st rfl rfl rfl (E.ST.callV (cap := [.pointer (some ⟨g2, 0, none⟩), .pointer (some ⟨g3, 0, none⟩), .pointer (some ⟨g5, 0, none⟩), .pointer (some ⟨g6, 0, none⟩)]) rfl ent82 rfl (E.evc rfl (E.evc rfl (E.evc rfl E.evn))) (hih.mono ?_))
      rintro e w65 ⟨rfl, v', hR⟩
      refine ⟨_, rfl, ?_⟩
      replace b7 := hR.calm _ _ _ _ b7 (by decide) (by decide)
      replace hM := hM.leave hR
      clear hR
      refine E.GL.done ?_
      refine E.QG.block_normal ?_
      refine E.QG.code ?_
      refine E.CG.list ?_
      refine E.GL.run rfl rfl rfl (E.Runs.add rfl rfl rfl (IntWalk.i64_in _ (by omega))) ?_
      refine E.GL.run rfl rfl rfl (E.Runs.move rfl rfl) ?_
      refine E.GL.done ?_
      exact E.QG.round2 (d := v) (i + 1) _ (E.subc rfl (E.subc rfl (E.subc rfl (E.subc rfl (E.subc rfl (E.subc rfl (E.subc rfl (E.subc rfl (E.subc rfl E.subn))))))))) ⟨by omega, ⟨b.set s i, fun x => set_set b s i x, b7⟩, by rw [pfx_next, ← List.append_assoc]; exact hM⟩ (by omega)
    · obtain rfl : i = left + 1 := by omega
      refine E.GL.done ?_
      refine E.QG.code ?_
      refine E.CG.seq ?_
      refine E.CG.cond_f rfl ?_
      refine E.CG.exit ?_
      refine E.QG.pass_exit ?_
      refine E.QG.pass_exit ?_
      refine E.QG.block_here ?_
      exact E.QG.result_n0 rfl ⟨rfl, _, by rw [chR, show V.ps.length - 1 - (k + 1) = s by omega]; exact hM⟩

end Go.Proofs.Ytiplichdhcmjdaa.T
namespace Go.Proofs.Ytiplichdhcmjdaa.E
open Go.RowKit Go.Proofs.YtiplichdhcmjdaaW.PrintWords Go.Proofs.YtiplichdhcmjdaaW.PrintMore
open Go.Proofs.Ytiplichdhcmjdaa.T
set_option linter.unusedVariables false
section
variable {P : Program} {w : World} {N : Nat} {env : Env} {o : Oper} {Q : Exit → Act → World → Prop} {K : Value → World → Prop}
theorem ST.storeX {ty : TypeId} {x y : Operand} {g i : Nat} {v : Value} {cs cs' : List Value} {t : TypeId} (ho : o.op = .store ty x y) (hz : Sized P ty) (hz1 : P.cellsOf ty = 1) (hx : Ev env x (.pointer (some ⟨g, i, none⟩))) (hy : Ev env y v) (hv : (∃ f a b, v = .func f a b) ∨ ∃ k, v = .map k)
    (hb : w.heap[g]? = some (.cells cs.toArray t (0, 0))) (hi : Nat.blt i cs.length = true) (hcs : cs.set i v = cs') (h : ∀ w1, w1.heap[g]? = some (.cells cs'.toArray t (0, 0)) → w.grownBy w1 (some g) → K undef w1) : ST P Q N env w o K := by
  intro a ha Kc hK
  have hi' : i < cs.length := by simpa [Nat.blt_eq] using hi
  have h1 : w.cell? ⟨g, i, none⟩ = some cs[i] := by rw [blk_cell hb]; simp [hi']
  have h2 : w.frozen? ⟨g, i, none⟩ = false := blk_frozen hb i
  have hr : (execOp a.eval o).run P w = .ok .skip (w.setCell ⟨g, i, none⟩ v) := by
    unfold execOp; rw [ho]; simp only []; rw [ha.eval hx, ha.eval hy]
    obtain ⟨inf, q1, q2⟩ := hz
    rcases hv with ⟨f, a, b, rfl⟩ | ⟨k, rfl⟩ <;> simp [go_sem, run_sizeOf w q1, hz1, h1, h2]
  unfold Oper.wp
  rw [hr]
  refine hK undef _ (h _ ?_ (gb_set (World.grownBy.refl w _) (.inr rfl) _))
  rw [blk_set hb, ← hcs]
  simp
theorem ST.storeXC {ty : TypeId} {x y : Operand} {b off : Nat} {v old : Value} (ho : o.op = .store ty x y) (hz : Sized P ty) (hz1 : P.cellsOf ty = 1) (hx : Ev env x (.pointer (some ⟨b, off, none⟩))) (hy : Ev env y v) (hv : (∃ f a b, v = .func f a b) ∨ ∃ k, v = .map k)
    (h1 : w.cell? ⟨b, off, none⟩ = some old) (h2 : w.frozen? ⟨b, off, none⟩ = false) (h : K undef (w.setCell ⟨b, off, none⟩ v)) : ST P Q N env w o K := by
  intro a ha Kc hK
  have hr : (execOp a.eval o).run P w = .ok .skip (w.setCell ⟨b, off, none⟩ v) := by
    unfold execOp; rw [ho]; simp only []; rw [ha.eval hx, ha.eval hy]
    obtain ⟨inf, q1, q2⟩ := hz
    rcases hv with ⟨f, a, b, rfl⟩ | ⟨k, rfl⟩ <;> simp [go_sem, run_sizeOf w q1, hz1, h1, h2]
  unfold Oper.wp
  rw [hr]
  exact hK _ _ h
end
end Go.Proofs.Ytiplichdhcmjdaa.E
namespace Go.Proofs.Ytiplichdhcmjdaa.T
open Go.RowKit Go.Proofs.YtiplichdhcmjdaaW.PrintWords Go.Proofs.YtiplichdhcmjdaaW.PrintMore
open Go.Proofs.Ytiplichdhcmjdaa.P
set_option linter.unusedVariables false
set_option linter.unusedSimpArgs false

theorem info103s : (Try.prog.info? 103).map (·.size) = some 1 := by kernel_rfl
theorem info103z : (Try.prog.info? 103).map (·.zero) = some (some .nilFunc) := by kernel_rfl
set_option maxRecDepth 100000 in
theorem build59z (W : World) : (Instr.build 59 #[]).run Try.prog W = .ok (bv Bl.z) W := by
  have hu3 := Try.underlying3
  have hu59 := Try.underlying59
  unfold bv Bl.z
  go_simp
section
variable {w0 : World} {V : Ev} {m : Ea} {c : S40} {a0 : Option Addr} {k0 g2 g3 g5 g6 : Nat}
theorem more_calls (hV : EvM w0 V m) (hx0 : Kd.C kI w0 a0 c.f0.length c.f0) (ok : VOk V) (hc : COk V.ps.length c) (k : Nat) : MoreC w0 V m c a0 k0 g2 g3 g5 g6 k := by
  induction k using Nat.strongRecOn with
  | _ k ih => exact more_step w0 V m c a0 k0 g2 g3 g5 g6 k hV hx0 ok hc ih
theorem more_top {w : World} (hV : EvM w0 V m) (hx0 : Kd.C kI w0 a0 c.f0.length c.f0) (ok : VOk V) (hc : COk V.ps.length c) (hM : Cs w0 w w V m c a0 k0 g2 g3 g5 g6 (.slice none 0 0) []) :
    Calls Try.prog 82 #[bv Bl.z, .int .i64 0, .int .i64 (rl c), .pointer (some ⟨g2, 0, none⟩), .pointer (some ⟨g3, 0, none⟩), .pointer (some ⟨g5, 0, none⟩), .pointer (some ⟨g6, 0, none⟩)] w fun e w' => e = .returned (.tuple #[]) ∧ ∃ v', Cs w0 w w' V m c a0 k0 g2 g3 g5 g6 v' (chs V c) := by
  have h1 := ok.n1
  have h3 := ok.n3
  have h8 := hc.2.2.2.2.2.2.2
  have := more_calls (g2 := g2) (g3 := g3) (g5 := g5) (g6 := g6) (k0 := k0) hV hx0 ok hc (V.ps.length - 1) 0 Bl.z (rl c).toNat [] _ w (by omega) (fun i hi => by
    unfold Bl.z Bl.get
    by_cases q : i = 0
    · simp [q]
    · by_cases q1 : i = 1 <;> simp [q, q1]) (by omega) (by
    have : 21 ^ (V.ps.length - 1) ≤ 21 ^ 2 := Nat.pow_le_pow_right (by decide) (by omega)
    simp only [List.length_nil]
    omega) hM
  rw [show (((rl c).toNat : Nat) : Int) = rl c by omega] at this
  exact this
end
set_option maxRecDepth 100000 in
set_option maxHeartbeats 8000000 in

theorem choices_calls (V : Ev) (m : Ea) (w : World) (hV : EvM w V m) (ok : VOk V) (c : S40) (a0 : Option Addr) (k0 : Nat) (hx0 : Kd.C kI w a0 c.f0.length c.f0) (hc : COk V.ps.length c) :
    Calls Try.prog 73 #[hv V m, .agg #[.slice a0 c.f0.length k0, .int .i64 c.f1, .int .i64 c.f2, .int .i64 c.f3, .int .i64 c.f4, .int .i64 c.f5]] w fun e w' => ∃ A k, e = .returned (.slice A (chs V c).length k) ∧ Kd.R k69 69 w' w.heap.size (fun _ => True) (.slice A (chs V c).length k) (chs V c) ∧ Below w.heap.size w w' := by
  obtain ⟨q1, q2, q3, q4, q5, q6, q7, q8⟩ := id hc
  have hu3 := Try.underlying3
  have hu22 := Try.underlying22
  have hu25 := Try.underlying25
  have hu40 := Try.underlying40
  have hu59 := Try.underlying59
  have hu69 := Try.underlying69
  have hu72 := Try.underlying72
  have hu103 := Try.underlying103
  obtain ⟨z103, o103⟩ := info_some info103s (by decide)
  obtain ⟨z3, o3⟩ := info_some info3s (by decide)
  obtain ⟨z22, o22⟩ := info_some info22s (by decide)
  obtain ⟨z40, o40⟩ := info_some info40s (by decide)
  obtain ⟨z59, o59⟩ := info_some info59s (by decide)
  obtain ⟨z69, o69⟩ := info_some info69s (by decide)
  obtain ⟨z72, o72⟩ := info_some info72s (by decide)
  refine E.enter (N := 14) Try.func73 rfl Try.ntmps73 (args := [hv V m, .agg #[.slice a0 c.f0.length k0, .int .i64 c.f1, .int .i64 c.f2, .int .i64 c.f3, .int .i64 c.f4, .int .i64 c.f5]]) (by simp) ?_
  have L := Below.refl w.heap.size w
  refine E.CG.seq ?_
  refine E.CG.list ?_
  refine E.GL.st rfl rfl rfl (E.ST.box rfl rfl fun g2 w2 e2 b2 l2 => ?_)
  have h2_L : w.heap.size ≤ g2 := by rw [e2]; exact L.size
  replace L := below_step L l2
  refine E.GL.st rfl rfl rfl (E.ST.box rfl rfl fun g3 w3 e3 b3 l3 => ?_)
  have h3_L : w.heap.size ≤ g3 := by rw [e3]; exact L.size
  have n3_b2 : g2 ≠ g3 := by have := blk_lt b2; omega
  replace b2 := blk_below b2 l3
  replace L := below_step L l3
  refine E.GL.run rfl rfl rfl (E.Runs.assign rfl rfl) ?_
  refine E.GL.done ?_
  refine E.QG.code ?_
  refine E.CG.seq ?_
  refine E.CG.list ?_
  refine E.GL.st rfl rfl rfl (E.ST.allocZ rfl info72z rfl fun g5 w5 e5 b5 l5 => ?_)
  have h5_L : w.heap.size ≤ g5 := by rw [e5]; exact L.size
  have n5_b2 : g2 ≠ g5 := by have := blk_lt b2; omega
  have n5_b3 : g3 ≠ g5 := by have := blk_lt b3; omega
  replace b2 := blk_below b2 l5
  replace b3 := blk_below b3 l5
  replace L := below_step L l5
  refine E.GL.done ?_
  refine E.QG.code ?_
  refine E.CG.seq ?_
  refine E.CG.list ?_
  refine E.GL.st rfl rfl rfl (E.ST.allocZ rfl info103z rfl fun g6 w6 e6 b6 l6 => ?_)
  have h6_L : w.heap.size ≤ g6 := by rw [e6]; exact L.size
  have n6_b2 : g2 ≠ g6 := by have := blk_lt b2; omega
  have n6_b3 : g3 ≠ g6 := by have := blk_lt b3; omega
  have n6_b5 : g5 ≠ g6 := by have := blk_lt b5; omega
  replace b2 := blk_below b2 l6
  replace b3 := blk_below b3 l6
  replace b5 := blk_below b5 l6
  replace L := below_step L l6
  refine E.GL.done ?_
  refine E.QG.code ?_
  refine E.CG.seq ?_
  refine E.CG.list ?_
  refine E.GL.run rfl rfl rfl (E.Runs.makeFunc rfl (E.evc rfl (E.evc rfl (E.evc rfl (E.evc rfl E.evn))))) ?_
  refine E.GL.sn rfl rfl (E.ST.storeX (cs := [.nilFunc]) rfl z103 o103 rfl rfl (.inl ⟨_, _, _, rfl⟩) b6 rfl rfl fun wS31 c6 lS31 => ?_)
  replace b2 := blk_grown b2 lS31 (E.nes (by first | assumption | exact Ne.symm (by assumption)))
  replace b3 := blk_grown b3 lS31 (E.nes (by first | assumption | exact Ne.symm (by assumption)))
  replace b5 := blk_grown b5 lS31 (E.nes (by first | assumption | exact Ne.symm (by assumption)))
  replace L := E.below_own L h6_L lS31
  replace b6 := c6
  clear c6
  refine E.GL.done ?_
  refine E.QG.code ?_
  refine E.CG.seq ?_
  refine E.CG.heldJ 4 (fun v W => v.grownBy W (none)) (fun _ _ => True) (by kernel_rfl) (by kernel_rfl) (fun v => World.grownBy.refl _ _) fun v4 lD => ?_
  replace b2 := blk_below b2 lD
  replace b3 := blk_below b3 lD
  replace b5 := blk_below b5 lD
  replace b6 := blk_below b6 lD
  replace L := below_step L lD
  have lD4 := lD
  clear lD
  have s_b2 := b2
  have s_b3 := b3
  have s_b5 := b5
  have s_b6 := b6
  have s_L := L
  have hh : v4.grownBy v4 (none) := World.grownBy.refl _ _
  refine E.GJ.take1 (i := 0) rfl (by kernel_rfl) (by kernel_rfl) (by kernel_rfl) (by kernel_rfl) rfl (by kernel_rfl) (by kernel_rfl) (by intro c a d v w h; first | (cases d <;> exact h) | exact nomatch (show _ ∧ _ from h).1) rfl rfl rfl (fun w' hS => (E.Runs.load1 rfl rfl hu103 rfl (E.keeps hS (E.blkc s_b6 rfl) E.nen))) ?_
  refine E.GJ.take1 (i := 1) rfl (by kernel_rfl) (by kernel_rfl) (by kernel_rfl) (by kernel_rfl) rfl (by kernel_rfl) (by kernel_rfl) (by intro c a d v w h; first | (cases d <;> exact h) | exact nomatch (show _ ∧ _ from h).1) rfl rfl rfl (fun w' hS => (E.Runs.build rfl E.epn build59z)) ?_
  refine E.GJ.take1t (i := 2) 3 rfl (by kernel_rfl) (by kernel_rfl) (by kernel_rfl) (by kernel_rfl) rfl (by kernel_rfl) rfl (by kernel_rfl) (by kernel_rfl) (by kernel_rfl) (by kernel_rfl) (by kernel_rfl) (by intro c a d v w h; first | (cases d <;> exact h) | exact nomatch (show _ ∧ _ from h).1) rfl rfl rfl (fun w' hS => (E.Runs.loads (cs := [.slice a0 c.f0.length k0, .int .i64 c.f1, .int .i64 c.f2, .int .i64 c.f3, .int .i64 c.f4, .int .i64 c.f5]) rfl rfl hu40 rfl info40s (blk_cells (blk_grown s_b3 hS E.nen)))) ?_
  refine E.GJ.one (i := 3) (by kernel_rfl) (E.OJ.st rfl rfl rfl rfl (E.ST.call rfl ent46 (E.evc rfl E.evn) ((roll_o c a0 k0 _ q3 q4 q7).mono ?_)))
  rintro e w11 ⟨rfl, l11⟩
  refine ⟨_, rfl, (E.SJ.before (by kernel_rfl)).mpr (hh.trans (E.gbB l11)), ?_⟩
  replace hh := hh.trans (E.gbB l11)
  replace b2 := blk_below b2 l11
  replace b3 := blk_below b3 l11
  replace b5 := blk_below b5 l11
  replace b6 := blk_below b6 l11
  replace L := below_step L l11
  refine E.GJ.one (i := 4) (by kernel_rfl) (E.OJ.st rfl rfl rfl rfl (E.ST.callV (cap := [.pointer (some ⟨g2, 0, none⟩), .pointer (some ⟨g3, 0, none⟩), .pointer (some ⟨g5, 0, none⟩), .pointer (some ⟨g6, 0, none⟩)]) rfl ent82 rfl (E.evc rfl (E.evc rfl (E.evc rfl E.evn))) ((more_top hV hx0 ok hc ⟨b2, b3, b5, b6, Kd.R_nil _ _ _ _ _, h5_L, L, L.size, Nat.le_refl _, CalmT.refl _ _ _⟩).mono ?_)))
  rintro e w12 ⟨rfl, v5, hR⟩
  refine ⟨_, rfl, (E.SJ.behind (by kernel_rfl)).mpr trivial, ?_⟩
  obtain ⟨A5, c5, hv5⟩ := Kd.R_slice hR.row
  subst hv5
  replace L := hR.bel
  clear b2 b3 b5 b6
  refine E.GJ.done (by kernel_rfl) ?_
  refine E.QG.code ?_
  refine E.CG.seq ?_
  refine E.CG.list ?_
  refine E.GL.run rfl rfl rfl (E.Runs.load1 rfl rfl hu72 rfl (E.blkc hR.b5 rfl)) ?_
  refine E.GL.run rfl rfl rfl (E.Runs.assign rfl rfl) ?_
  refine E.GL.done ?_
  refine E.QG.code ?_
  refine E.CG.ret ?_
  exact E.QG.result rfl rfl ⟨_, _, rfl, hR.row, L⟩

end Go.Proofs.Ytiplichdhcmjdaa.T
namespace Go.Proofs.Ytiplichdhcmjdaa.T
open Go.RowKit Go.Proofs.YtiplichdhcmjdaaW.PrintWords Go.Proofs.YtiplichdhcmjdaaW.PrintMore
open Go.Proofs.Ytiplichdhcmjdaa.P
set_option linter.unusedVariables false
set_option linter.unusedSimpArgs false

/-- What least leaves. -/
def lst (f : Bl → Option Int) (b : Bl) (x : Int) : Bl → Option Int := match f b with
  | none => E.upd f b x
  | some m => if x < m then E.upd f b x else f
theorem lst_none {f : Bl → Option Int} {b : Bl} {x : Int} (h : f b = none) : lst f b x = E.upd f b x := by unfold lst; rw [h]
theorem lst_yes {f : Bl → Option Int} {b : Bl} {x m : Int} (h : f b = some m) (k : x < m) : lst f b x = E.upd f b x := by unfold lst; rw [h]; exact if_pos k
theorem lst_no {f : Bl → Option Int} {b : Bl} {x m : Int} (h : f b = some m) (k : ¬ x < m) : lst f b x = f := by unfold lst; rw [h]; exact if_neg k
theorem lst_mn {f : Bl → Option Int} {p : Bl → Int → Prop} {b : Bl} {x : Int} (h : ∀ c, Mn (p c) (f c)) : ∀ c, Mn (fun n => p c n ∨ (c = b ∧ n = x)) (lst f b x c) := by
  intro c
  by_cases e : c = b
  · subst e
    have hc := h c
    cases hf : f c with
    | none =>
      rw [hf] at hc
      rw [lst_none hf, show E.upd f c x c = some x from by simp [E.upd]]
      exact ⟨.inr ⟨rfl, rfl⟩, fun n k => k.elim (fun q => absurd q (hc n)) (fun q => by omega)⟩
    | some m =>
      rw [hf] at hc
      by_cases q : x < m
      · rw [lst_yes hf q, show E.upd f c x c = some x from by simp [E.upd]]
        exact ⟨.inr ⟨rfl, rfl⟩, fun n k => k.elim (fun z => by have := hc.2 n z; omega) (fun z => by omega)⟩
      · rw [lst_no hf q, hf]
        exact ⟨.inl hc.1, fun n k => k.elim (hc.2 n) (fun z => by omega)⟩
  · have h2 : lst f b x c = f c := by
      unfold lst
      cases hf : f b with
      | none => simp [E.upd, e]
      | some m => by_cases q : x < m <;> simp [q, E.upd, e]
    rw [h2]
    exact (h c).congr fun n => by simp [e]
set_option maxRecDepth 100000 in
set_option maxHeartbeats 8000000 in

theorem least_calls (g : Nat) (f : Bl → Option Int) (b : Bl) (x : Int) (w : World) (hM : MB w g f) :
    Calls Try.prog 75 #[.map (some g), bv b, .int .i64 x] w fun e w' => e = .returned (.tuple #[]) ∧ MB w' g (lst f b x) ∧ w.grownBy w' (some g) := by
  have hu3 := Try.underlying3
  have hu59 := Try.underlying59
  have hu91 := Try.underlying91
  obtain ⟨z3, o3⟩ := info_some info3s (by decide)
  obtain ⟨z59, o59⟩ := info_some info59s (by decide)
  refine E.enter (N := 24) Try.func75 rfl Try.ntmps75 (args := [.map (some g), bv b, .int .i64 x]) (by simp) ?_
  have L := Below.refl w.heap.size w
  refine E.CG.seq ?_
  refine E.CG.list ?_
  refine E.GL.st rfl rfl rfl (E.ST.box rfl rfl fun g4 w4 e4 b4 l4 => ?_)
  have h4_L : w.heap.size ≤ g4 := by rw [e4]; exact L.size
  replace hM := hM.below l4
  replace L := below_step L l4
  refine E.GL.done ?_
  refine E.QG.code ?_
  refine E.CG.seq ?_
  refine E.CG.list ?_
  refine E.GL.run rfl rfl rfl (E.Runs.move rfl rfl) ?_
  refine E.GL.run rfl rfl rfl (E.Runs.loads (cs := [.int .i64 b.f0, .int .i64 b.f1, .int .i64 b.f2]) rfl rfl hu59 rfl info59s (blk_cells b4)) ?_
  rcases hf : f b with _ | m0
  · refine E.GL.run rfl rfl rfl (E.Runs.lookupF rfl rfl kBT rfl hu91 zero3I hM (show _ = Value.tuple #[.int .i64 0, .bool false] from by simp [hf])) ?_
    refine E.GL.run rfl rfl rfl (E.Runs.move rfl rfl) ?_
    refine E.GL.run rfl rfl rfl (E.Runs.extract rfl rfl rfl) ?_
    refine E.GL.run rfl rfl rfl (E.Runs.extract rfl rfl rfl) ?_
    refine E.GL.run rfl rfl rfl (E.Runs.assign rfl rfl) ?_
    refine E.GL.run rfl rfl rfl (E.Runs.assign rfl rfl) ?_
    refine E.GL.done ?_
    refine E.QG.code ?_
    refine E.CG.seq ?_
    have hG : w.grownBy _ (some g) := E.gbB L
    refine E.CG.list ?_
    refine E.GL.run rfl rfl rfl (E.Runs.move rfl rfl) ?_
    refine E.GL.run rfl rfl rfl (E.Runs.not rfl rfl) ?_
    refine E.GL.run rfl rfl rfl (E.Runs.move rfl rfl) ?_
    refine E.GL.skip rfl rfl rfl ?_
    refine E.GL.skip rfl rfl rfl ?_
    refine E.GL.skip rfl rfl rfl ?_
    refine E.GL.run rfl rfl rfl (E.Runs.pick_t rfl rfl rfl) ?_
    refine E.GL.done ?_
    refine E.QG.code ?_
    refine E.CG.cond_t rfl ?_
    refine E.CG.list ?_
    refine E.GL.run rfl rfl rfl (E.Runs.move rfl rfl) ?_
    refine E.GL.run rfl rfl rfl (E.Runs.loads (cs := [.int .i64 b.f0, .int .i64 b.f1, .int .i64 b.f2]) rfl rfl hu59 rfl info59s (blk_cells b4)) ?_
    refine E.GL.run rfl rfl rfl (E.Runs.move rfl rfl) ?_
    refine E.GL.sn rfl rfl (E.ST.mapUpdate rfl rfl kBT b rfl rfl hu91 hM fun wQ mQ lQ => ?_)
    replace hG := hG.trans lQ
    replace hM := mQ
    refine E.GL.done ?_
    exact E.QG.result_n0 rfl ⟨rfl, by rw [lst_none hf]; exact hM, hG⟩
  · refine E.GL.run rfl rfl rfl (E.Runs.lookupF rfl rfl kBT rfl hu91 zero3I hM (show _ = Value.tuple #[.int .i64 m0, .bool true] from by simp [hf])) ?_
    refine E.GL.run rfl rfl rfl (E.Runs.move rfl rfl) ?_
    refine E.GL.run rfl rfl rfl (E.Runs.extract rfl rfl rfl) ?_
    refine E.GL.run rfl rfl rfl (E.Runs.extract rfl rfl rfl) ?_
    refine E.GL.run rfl rfl rfl (E.Runs.assign rfl rfl) ?_
    refine E.GL.run rfl rfl rfl (E.Runs.assign rfl rfl) ?_
    refine E.GL.done ?_
    refine E.QG.code ?_
    refine E.CG.seq ?_
    have hG : w.grownBy _ (some g) := E.gbB L
    refine E.CG.list ?_
    refine E.GL.run rfl rfl rfl (E.Runs.move rfl rfl) ?_
    refine E.GL.run rfl rfl rfl (E.Runs.not rfl rfl) ?_
    refine E.GL.run rfl rfl rfl (E.Runs.move rfl rfl) ?_
    refine E.GL.run rfl rfl rfl (E.Runs.move rfl rfl) ?_
    refine E.GL.run rfl rfl rfl (E.Runs.move rfl rfl) ?_
    refine E.GL.cmp rfl rfl rfl (fun _ h => (E.Runs.lss rfl rfl rfl h)) (fun h19 => ?_) (fun h19 => ?_)
    · refine E.GL.run rfl rfl rfl (E.Runs.pick_f rfl rfl rfl) ?_
      refine E.GL.done ?_
      refine E.QG.code ?_
      refine E.CG.cond_t rfl ?_
      refine E.CG.list ?_
      refine E.GL.run rfl rfl rfl (E.Runs.move rfl rfl) ?_
      refine E.GL.run rfl rfl rfl (E.Runs.loads (cs := [.int .i64 b.f0, .int .i64 b.f1, .int .i64 b.f2]) rfl rfl hu59 rfl info59s (blk_cells b4)) ?_
      refine E.GL.run rfl rfl rfl (E.Runs.move rfl rfl) ?_
      refine E.GL.sn rfl rfl (E.ST.mapUpdate rfl rfl kBT b rfl rfl hu91 hM fun wQ mQ lQ => ?_)
      replace hG := hG.trans lQ
      replace hM := mQ
      refine E.GL.done ?_
      exact E.QG.result_n0 rfl ⟨rfl, by rw [lst_yes hf h19]; exact hM, hG⟩
    · refine E.GL.run rfl rfl rfl (E.Runs.pick_f rfl rfl rfl) ?_
      refine E.GL.done ?_
      refine E.QG.code ?_
      refine E.CG.cond_f rfl ?_
      refine E.CG.skip ?_
      exact E.QG.result_n0 rfl ⟨rfl, by rw [lst_no hf h19]; exact hM, hG⟩

end Go.Proofs.Ytiplichdhcmjdaa.T
