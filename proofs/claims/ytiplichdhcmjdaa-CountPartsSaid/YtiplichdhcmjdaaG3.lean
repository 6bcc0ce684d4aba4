/- Texts of this claim, put together: A5, A6, E18, A7, A8, N6, N7. -/
import Derived.Test.YtiplichdhcmjdaaG2
namespace Go.Proofs.Ytiplichdhcmjdaa.T
open Go.RowKit Go.Proofs.YtiplichdhcmjdaaW.PrintWords Go.Proofs.YtiplichdhcmjdaaW.PrintMore
open Go.Proofs.Ytiplichdhcmjdaa.P
set_option linter.unusedVariables false
set_option linter.unusedSimpArgs false

set_option maxRecDepth 100000 in
theorem lit22 (x : Int) (W : World) : (Instr.buildSlice 22 1 #[(0, .int .i64 x)]).run Try.prog W = .ok (.slice (some ⟨W.heap.size, 0, none⟩) 1 1) (W.alloc (.cells #[.int .i64 x] 3 (0, 0))) := by
  have hu22 := Try.underlying22
  go_simp
def bigV (V : Ev) : Prop := 30 < V.ps.length ∨ 30 < V.qs.length ∨ 30 < V.ts.length ∨ 30 < V.cs.length ∨ ∃ x ∈ V.cs, 30 < x.f0.length
/-- Too large for the statements. -/
def farV (V : Ev) : Prop := bigV V ∨ VOk V ∧ (3 < V.cs.length ∨ ∃ x ∈ V.cs, 7 < rl x)
theorem not_far {V : Ev} (h : ¬ farV V) : Sz V := by
  unfold farV bigV at h
  refine ⟨by omega, by omega, by omega, by omega, fun x hx => ?_⟩
  rcases Nat.lt_or_ge 30 x.f0.length with q | q
  · exact absurd (.inl (.inr (.inr (.inr (.inr ⟨x, hx, q⟩))))) h
  · omega
theorem S40.eq {x y : S40} (h0 : x.f0 = y.f0) (h1 : x.f1 = y.f1) (h2 : x.f2 = y.f2) (h3 : x.f3 = y.f3) (h4 : x.f4 = y.f4) (h5 : x.f5 = y.f5) : x = y := by cases x; cases y; simp_all
theorem Ev.eq {x y : Ev} (h0 : x.ps = y.ps) (h1 : x.qs = y.qs) (h2 : x.ts = y.ts) (h3 : x.cs = y.cs) : x = y := by cases x; cases y; simp_all
set_option maxRecDepth 100000 in
set_option maxHeartbeats 8000000 in

theorem absent36 (V : Ev) (m : Ea) (w : World) (hV : EvM w V m) (hs : Sz V) :
    Calls Try.prog 36 #[hv V m] w fun e w' => ∃ v, e = .returned (.tuple #[v, .int .i64 (absV V).2]) ∧ Kd.R kI 3 w' w.heap.size (fun _ => True) v (absV V).1 ∧ Below w.heap.size w w' := by
  have hu3 := Try.underlying3
  have hu22 := Try.underlying22
  have hu23 := Try.underlying23
  have hu25 := Try.underlying25
  obtain ⟨z3, o3⟩ := info_some info3s (by decide)
  obtain ⟨z22, o22⟩ := info_some info22s (by decide)
  obtain ⟨z23, o23⟩ := info_some info23s (by decide)
  obtain ⟨z25, o25⟩ := info_some info25s (by decide)
  refine E.enter (N := 37) Try.func36 rfl Try.ntmps36 (args := [hv V m]) (by simp) ?_
  have L := Below.refl w.heap.size w
  refine E.CG.seq ?_
  refine E.CG.list ?_
  refine E.GL.st rfl rfl rfl (E.ST.box rfl rfl fun g1 w1 e1 b1 l1 => ?_)
  have h1_L : w.heap.size ≤ g1 := by rw [e1]; exact L.size
  replace L := below_step L l1
  refine E.GL.run rfl rfl rfl (E.Runs.assign rfl rfl) ?_
  refine E.GL.run rfl rfl rfl (E.Runs.assign rfl rfl) ?_
  refine E.GL.done ?_
  refine E.QG.code ?_
  refine E.CG.seq ?_
  refine E.CG.seq ?_
  refine E.CG.list ?_
  refine E.GL.run rfl rfl rfl (E.Runs.loads (cs := [.slice m.A V.ps.length m.a, .slice m.B V.qs.length m.b, .slice m.C V.ts.length m.c, .slice m.D V.cs.length m.d]) rfl rfl hu25 rfl info25s (blk_cells b1)) ?_
  refine E.GL.st rfl rfl rfl (E.ST.call rfl ent33 (E.evc rfl E.evn) ((check33 V m _ (hV.below L) hs).mono ?_))
  rintro e w8 ⟨rfl, l8⟩
  refine ⟨_, rfl, ?_⟩
  replace b1 := blk_below b1 l8
  replace L := below_step L l8
  by_cases ok : VOk V
  · refine E.GL.run rfl rfl rfl (E.Runs.neq rfl rfl rfl (E.ne_f (chkV_yes ok))) ?_
    refine E.GL.done ?_
    refine E.QG.code ?_
    refine E.CG.cond_f rfl ?_
    refine E.CG.skip ?_
    refine E.QG.code ?_
    refine E.CG.seq ?_
    refine E.CG.list ?_
    refine E.GL.run rfl rfl rfl (E.Runs.assign rfl rfl) ?_
    refine E.GL.done ?_
    refine E.QG.code ?_
    refine E.CG.seq ?_
    refine E.CG.seq ?_
    refine E.CG.list ?_
    refine E.GL.run rfl rfl rfl (E.Runs.fieldAddr rfl rfl hu25 rfl (by assumption) rfl) ?_
    refine E.GL.run rfl rfl rfl (E.Runs.load1 rfl rfl hu22 rfl (by first | assumption | exact E.blkc (by assumption) rfl | exact pw_cell_below L (by assumption))) ?_
    refine E.GL.run rfl rfl rfl (E.Runs.len rfl rfl hu22) ?_
    refine E.GL.run rfl rfl rfl (E.Runs.move rfl rfl) ?_
    refine E.GL.done ?_
    refine E.QG.code ?_
    refine E.CG.block ?_
    have s5_b1 := b1
    have s5_L := L
    refine E.CG.loop2 (fun (i : Nat) (v7 : Value) => [(1, .pointer (some ⟨g1, 0, none⟩)), (4, v7), (11, .slice m.B V.qs.length m.b), (12, .int .i64 V.qs.length), (13, .int .i64 i)]) (fun i v7 w' => i ≤ V.qs.length ∧ (∀ j, j < i → badStub V j = false) ∧ w'.heap[g1]? = some (.cells #[.slice m.A V.ps.length m.a, .slice m.B V.qs.length m.b, .slice m.C V.ts.length m.c, .slice m.D V.cs.length m.d] 25 (0, 0)) ∧ Kd.R kI 3 w' w.heap.size (fun _ => True) v7 (absL V i) ∧ Below w.heap.size w w') (fun i v7 => V.qs.length - i) 0 (.slice none 0 0) (E.subc rfl (E.subc rfl (E.subc rfl (E.subc rfl (E.subc rfl E.subn))))) ⟨Nat.zero_le _, fun j hj => by omega, b1, Kd.R_nil _ _ _ _ _, L⟩ ?_
    rintro i v7 w5 ⟨hi, hk3, b1, R7, L⟩
    refine E.CG.seq ?_
    refine E.CG.list ?_
    refine E.GL.cmp rfl rfl rfl (fun _ h => (E.Runs.lss rfl rfl rfl h)) (fun h14 => ?_) (fun h14 => ?_)
    · have hnq := ok.nq
      have hnt := ok.nt
      have hn3 := ok.n3
      have hsn : i < V.ps.length := by omega
      obtain ⟨x, hx⟩ := get_ex (show i < V.qs.length by omega)
      obtain ⟨ad, eA, X⟩ := int_at hV.qs hx
      obtain ⟨y, hy⟩ := get_ex (show i < V.ts.length by omega)
      obtain ⟨ae, eB, Y⟩ := int_at hV.ts hy
      have hxq := ok.q x (List.mem_of_getElem? hx)
      have hyt := ok.t y (List.mem_of_getElem? hy)
      refine E.GL.done ?_
      refine E.QG.code ?_
      refine E.CG.seq ?_
      refine E.CG.cond_t rfl ?_
      refine E.CG.skip ?_
      refine E.QG.code ?_
      refine E.CG.seq ?_
      refine E.CG.block ?_
      refine E.CG.seq ?_
      refine E.CG.list ?_
      refine E.GL.run rfl rfl rfl (E.Runs.move rfl rfl) ?_
      refine E.GL.run rfl rfl rfl (E.Runs.indexAddrA (i := i) rfl rfl rfl hu22 z3 o3 (by omega) eA rfl) ?_
      refine E.GL.run rfl rfl rfl (E.Runs.load rfl rfl hu3 (pw_cell_below L X)) ?_
      refine E.GL.run rfl rfl rfl (E.Runs.assign rfl rfl) ?_
      refine E.GL.run rfl rfl rfl (E.Runs.assign rfl rfl) ?_
      refine E.GL.done ?_
      refine E.QG.code ?_
      refine E.CG.seq ?_
      refine E.CG.seq ?_
      refine E.CG.list ?_
      refine E.GL.run rfl rfl rfl (E.Runs.fieldAddr rfl rfl hu25 rfl (by assumption) rfl) ?_
      refine E.GL.run rfl rfl rfl (E.Runs.load1 rfl rfl hu22 rfl (by first | assumption | exact E.blkc (by assumption) rfl | exact pw_cell_below L (by assumption))) ?_
      refine E.GL.run rfl rfl rfl (E.Runs.move rfl rfl) ?_
      refine E.GL.run rfl rfl rfl (E.Runs.indexAddrA (i := i) rfl rfl rfl hu22 z3 o3 (by omega) eB rfl) ?_
      refine E.GL.run rfl rfl rfl (E.Runs.load rfl rfl hu3 (pw_cell_below L Y)) ?_
      refine E.GL.run rfl rfl rfl (E.Runs.move rfl rfl) ?_
      refine E.GL.cmp rfl rfl rfl (fun _ h => (E.Runs.gtr rfl rfl rfl h)) (fun h24 => ?_) (fun h24 => ?_)
      · refine E.GL.done ?_
        refine E.QG.code ?_
        refine E.CG.cond_t rfl ?_
        refine E.CG.seq ?_
        refine E.CG.list ?_
        refine E.GL.run rfl rfl rfl (E.Runs.assign rfl rfl) ?_
        refine E.GL.run rfl rfl rfl (E.Runs.assign rfl rfl) ?_
        refine E.GL.done ?_
        refine E.QG.code ?_
        refine E.CG.ret ?_
        refine E.QG.pass_ret ?_
        refine E.QG.block_ret ?_
        refine E.QG.pass_ret ?_
        refine E.QG.pass_ret ?_
        refine E.QG.block_ret ?_
        refine E.QG.pass_ret ?_
        exact E.QG.result2 rfl rfl rfl ⟨.slice none 0 0, by rw [absV_3 ok hsn (by unfold badStub; rw [getD_of hx, getD_of hy]; simp; omega)], by rw [absV_3 ok hsn (by unfold badStub; rw [getD_of hx, getD_of hy]; simp; omega)]; exact Kd.R_nil _ _ _ _ _, L⟩
      · refine E.GL.done ?_
        refine E.QG.code ?_
        refine E.CG.cond_f rfl ?_
        refine E.CG.skip ?_
        refine E.QG.code ?_
        refine E.CG.list ?_
        refine E.GL.run rfl rfl rfl (E.Runs.move rfl rfl) ?_
        refine E.GL.run rfl rfl rfl (E.Runs.move rfl rfl) ?_
        refine E.GL.run rfl rfl rfl (E.Runs.fieldAddr rfl rfl hu25 rfl (by assumption) rfl) ?_
        refine E.GL.run rfl rfl rfl (E.Runs.load1 rfl rfl hu22 rfl (by first | assumption | exact E.blkc (by assumption) rfl | exact pw_cell_below L (by assumption))) ?_
        refine E.GL.run rfl rfl rfl (E.Runs.move rfl rfl) ?_
        refine E.GL.run rfl rfl rfl (E.Runs.indexAddrA (i := i) rfl rfl rfl hu22 z3 o3 (by omega) eB rfl) ?_
        refine E.GL.run rfl rfl rfl (E.Runs.load rfl rfl hu3 (pw_cell_below L Y)) ?_
        refine E.GL.run rfl rfl rfl (E.Runs.sub rfl rfl rfl (IntWalk.i64_in _ (by omega))) ?_
        refine E.GL.st rfl rfl rfl (E.ST.lit rfl (E.epc rfl E.epn) (lit22 (x - y)) ?_)
        refine E.GL.st rfl rfl rfl (E.ST.append kI w.heap.size (w0 := w) (s := .tmp 25) (x := .tmp 33) rfl hu22 info3 rfl (by decide) (by decide) (x - y) rfl rfl rfl (fun _ _ => trivial) R7 L L.size (by rw [absL_len]; omega) fun u34 w34 r34 k34 gr34 => ?_)
        replace b1 := blk_grown b1 gr34 (Kd.R_ne R7 b1 (by decide))
        replace L := k34
        clear R7 k34 gr34
        rw [absL_next V i hx hy] at r34
        refine E.GL.run rfl rfl rfl (E.Runs.assign rfl rfl) ?_
        refine E.GL.done ?_
        refine E.QG.block_normal ?_
        refine E.QG.code ?_
        refine E.CG.list ?_
        refine E.GL.run rfl rfl rfl (E.Runs.add rfl rfl rfl (IntWalk.i64_in _ (by omega))) ?_
        refine E.GL.run rfl rfl rfl (E.Runs.move rfl rfl) ?_
        refine E.GL.done ?_
        exact E.QG.round2 (d := .slice none 0 0) (i + 1) _ (E.subc rfl (E.subc rfl (E.subc rfl (E.subc rfl (E.subc rfl E.subn))))) ⟨by omega, upto_more hk3 (by unfold badStub; rw [getD_of hx, getD_of hy]; simp; omega), b1, r34, L⟩ (by omega)
    · refine E.GL.done ?_
      refine E.QG.code ?_
      refine E.CG.seq ?_
      refine E.CG.cond_f rfl ?_
      refine E.CG.exit ?_
      refine E.QG.pass_exit ?_
      refine E.QG.pass_exit ?_
      refine E.QG.block_here ?_
      refine E.QG.code ?_
      refine E.CG.seq ?_
      refine E.CG.list ?_
      refine E.GL.run rfl rfl rfl (E.Runs.move rfl rfl) ?_
      refine E.GL.run rfl rfl rfl (E.Runs.assign rfl rfl) ?_
      refine E.GL.run rfl rfl rfl (E.Runs.assign rfl rfl) ?_
      refine E.GL.done ?_
      refine E.QG.code ?_
      refine E.CG.ret ?_
      have hnq := ok.nq
      obtain rfl : i = V.ps.length := by omega
      exact E.QG.result2 rfl rfl rfl ⟨_, by rw [absV_0 ok hk3], by rw [absV_0 ok hk3]; exact R7, L⟩
  · refine E.GL.run rfl rfl rfl (E.Runs.neq rfl rfl rfl (E.ne_t (by rw [chkV_no ok]; decide))) ?_
    refine E.GL.done ?_
    refine E.QG.code ?_
    refine E.CG.cond_t rfl ?_
    refine E.CG.seq ?_
    refine E.CG.list ?_
    refine E.GL.run rfl rfl rfl (E.Runs.assign rfl rfl) ?_
    refine E.GL.run rfl rfl rfl (E.Runs.assign rfl rfl) ?_
    refine E.GL.done ?_
    refine E.QG.code ?_
    refine E.CG.ret ?_
    refine E.QG.pass_ret ?_
    exact E.QG.result2 rfl rfl rfl ⟨.slice none 0 0, by rw [absV_no ok], by rw [absV_no ok]; exact Kd.R_nil _ _ _ _ _, L⟩

set_option maxRecDepth 100000 in
set_option maxHeartbeats 8000000 in

theorem absent37 (V : Ev) (m : Ea) (w : World) (hV : EvM w V m) (hs : Sz V) :
    Calls Try.prog 37 #[hv V m] w fun e w' => ∃ v, e = .returned (.tuple #[v, .int .i64 (absV V).2]) ∧ Kd.R kI 3 w' w.heap.size (fun _ => True) v (absV V).1 ∧ Below w.heap.size w w' := by
  have hu3 := Try.underlying3
  have hu22 := Try.underlying22
  have hu23 := Try.underlying23
  have hu25 := Try.underlying25
  obtain ⟨z3, o3⟩ := info_some info3s (by decide)
  obtain ⟨z22, o22⟩ := info_some info22s (by decide)
  obtain ⟨z23, o23⟩ := info_some info23s (by decide)
  obtain ⟨z25, o25⟩ := info_some info25s (by decide)
  refine E.enter (N := 45) Try.func37 rfl Try.ntmps37 (args := [hv V m]) (by simp) ?_
  have L := Below.refl w.heap.size w
  refine E.CG.seq ?_
  refine E.CG.list ?_
  refine E.GL.st rfl rfl rfl (E.ST.box rfl rfl fun g1 w1 e1 b1 l1 => ?_)
  have h1_L : w.heap.size ≤ g1 := by rw [e1]; exact L.size
  replace L := below_step L l1
  refine E.GL.run rfl rfl rfl (E.Runs.assign rfl rfl) ?_
  refine E.GL.run rfl rfl rfl (E.Runs.assign rfl rfl) ?_
  refine E.GL.done ?_
  refine E.QG.code ?_
  refine E.CG.seq ?_
  refine E.CG.seq ?_
  refine E.CG.list ?_
  refine E.GL.run rfl rfl rfl (E.Runs.loads (cs := [.slice m.A V.ps.length m.a, .slice m.B V.qs.length m.b, .slice m.C V.ts.length m.c, .slice m.D V.cs.length m.d]) rfl rfl hu25 rfl info25s (blk_cells b1)) ?_
  refine E.GL.st rfl rfl rfl (E.ST.call rfl ent34 (E.evc rfl E.evn) ((check34 V m _ (hV.below L) hs).mono ?_))
  rintro e w8 ⟨rfl, l8⟩
  refine ⟨_, rfl, ?_⟩
  replace b1 := blk_below b1 l8
  replace L := below_step L l8
  refine E.GL.run rfl rfl rfl (E.Runs.assign rfl rfl) ?_
  refine E.GL.done ?_
  refine E.QG.code ?_
  refine E.CG.seq ?_
  refine E.CG.list ?_
  refine E.GL.run rfl rfl rfl (E.Runs.move rfl rfl) ?_
  by_cases ok : VOk V
  · refine E.GL.run rfl rfl rfl (E.Runs.neq rfl rfl rfl (E.ne_f (chkV_yes ok))) ?_
    refine E.GL.done ?_
    refine E.QG.code ?_
    refine E.CG.cond_f rfl ?_
    refine E.CG.skip ?_
    refine E.QG.code ?_
    refine E.CG.seq ?_
    refine E.CG.list ?_
    refine E.GL.run rfl rfl rfl (E.Runs.assign rfl rfl) ?_
    refine E.GL.done ?_
    refine E.QG.code ?_
    refine E.CG.seq ?_
    refine E.CG.seq ?_
    refine E.CG.list ?_
    refine E.GL.run rfl rfl rfl (E.Runs.assign rfl rfl) ?_
    refine E.GL.done ?_
    refine E.QG.code ?_
    refine E.CG.block ?_
    have s6_b1 := b1
    have s6_L := L
    refine E.CG.loop2 (fun (i : Nat) (v7 : Value) => [(1, .pointer (some ⟨g1, 0, none⟩)), (5, v7), (6, .int .i64 i)]) (fun i v7 w' => i ≤ V.qs.length ∧ (∀ j, j < i → badStub V j = false) ∧ w'.heap[g1]? = some (.cells #[.slice m.A V.ps.length m.a, .slice m.B V.qs.length m.b, .slice m.C V.ts.length m.c, .slice m.D V.cs.length m.d] 25 (0, 0)) ∧ Kd.R kI 3 w' w.heap.size (fun _ => True) v7 (absL V i) ∧ Below w.heap.size w w') (fun i v7 => V.qs.length - i) 0 (.slice none 0 0) (E.subc rfl (E.subc rfl (E.subc rfl E.subn))) ⟨Nat.zero_le _, fun j hj => by omega, b1, Kd.R_nil _ _ _ _ _, L⟩ ?_
    rintro i v7 w6 ⟨hi, hk3, b1, R7, L⟩
    refine E.CG.seq ?_
    refine E.CG.seq ?_
    refine E.CG.list ?_
    refine E.GL.run rfl rfl rfl (E.Runs.move rfl rfl) ?_
    refine E.GL.run rfl rfl rfl (E.Runs.fieldAddr rfl rfl hu25 rfl (by assumption) rfl) ?_
    refine E.GL.run rfl rfl rfl (E.Runs.load1 rfl rfl hu22 rfl (by first | assumption | exact E.blkc (by assumption) rfl | exact pw_cell_below L (by assumption))) ?_
    refine E.GL.run rfl rfl rfl (E.Runs.len rfl rfl hu22) ?_
    refine E.GL.cmp rfl rfl rfl (fun _ h => (E.Runs.lss rfl rfl rfl h)) (fun h16 => ?_) (fun h16 => ?_)
    · have hnq := ok.nq
      have hnt := ok.nt
      have hn3 := ok.n3
      have hsn : i < V.ps.length := by omega
      obtain ⟨x, hx⟩ := get_ex (show i < V.qs.length by omega)
      obtain ⟨ad, eA, X⟩ := int_at hV.qs hx
      obtain ⟨y, hy⟩ := get_ex (show i < V.ts.length by omega)
      obtain ⟨ae, eB, Y⟩ := int_at hV.ts hy
      have hxq := ok.q x (List.mem_of_getElem? hx)
      have hyt := ok.t y (List.mem_of_getElem? hy)
      refine E.GL.done ?_
      refine E.QG.code ?_
      refine E.CG.cond_t rfl ?_
      refine E.CG.skip ?_
      refine E.QG.code ?_
      refine E.CG.seq ?_
      refine E.CG.block ?_
      refine E.CG.seq ?_
      refine E.CG.seq ?_
      refine E.CG.quietF (by kernel_rfl) rfl (by kernel_rfl) (by kernel_rfl) ?_
      refine E.GQ.run rfl rfl rfl (E.Runs.fieldAddr rfl rfl hu25 rfl (by assumption) rfl) ?_
      refine E.GQ.run rfl rfl rfl (E.Runs.load1 rfl rfl hu22 rfl (by first | assumption | exact E.blkc (by assumption) rfl | exact pw_cell_below L (by assumption))) ?_
      refine E.GQ.run rfl rfl rfl (E.Runs.move rfl rfl) ?_
      refine E.GQ.run rfl rfl rfl (E.Runs.indexAddrA (i := i) rfl rfl rfl hu22 z3 o3 (by omega) eB rfl) ?_
      refine E.GQ.run rfl rfl rfl (E.Runs.load rfl rfl hu3 (pw_cell_below L Y)) ?_
      refine E.GQ.run rfl rfl rfl (E.Runs.fieldAddr rfl rfl hu25 rfl (by assumption) rfl) ?_
      refine E.GQ.run rfl rfl rfl (E.Runs.load1 rfl rfl hu22 rfl (by first | assumption | exact E.blkc (by assumption) rfl | exact pw_cell_below L (by assumption))) ?_
      refine E.GQ.run rfl rfl rfl (E.Runs.move rfl rfl) ?_
      refine E.GQ.run rfl rfl rfl (E.Runs.indexAddrA (i := i) rfl rfl rfl hu22 z3 o3 (by omega) eA rfl) ?_
      refine E.GQ.run rfl rfl rfl (E.Runs.load rfl rfl hu3 (pw_cell_below L X)) ?_
      refine E.GQ.cmp rfl rfl rfl (fun _ h => (E.Runs.gtr rfl rfl rfl h)) (fun h29 => ?_) (fun h29 => ?_)
      · refine E.GQ.doneB fun v8 lD => ?_
        replace b1 := blk_below b1 lD
        replace R7 := Kd.R_below R7 lD
        replace L := below_step L lD
        have lD8 := lD
        clear lD
        refine E.QG.code ?_
        refine E.CG.cond_t rfl ?_
        refine E.CG.seq ?_
        refine E.CG.list ?_
        refine E.GL.run rfl rfl rfl (E.Runs.assign rfl rfl) ?_
        refine E.GL.run rfl rfl rfl (E.Runs.assign rfl rfl) ?_
        refine E.GL.done ?_
        refine E.QG.code ?_
        refine E.CG.ret ?_
        refine E.QG.pass_ret ?_
        refine E.QG.block_ret ?_
        refine E.QG.pass_ret ?_
        refine E.QG.pass_ret ?_
        refine E.QG.block_ret ?_
        refine E.QG.pass_ret ?_
        exact E.QG.result2 rfl rfl rfl ⟨.slice none 0 0, by rw [absV_3 ok hsn (by unfold badStub; rw [getD_of hx, getD_of hy]; simp; omega)], by rw [absV_3 ok hsn (by unfold badStub; rw [getD_of hx, getD_of hy]; simp; omega)]; exact Kd.R_nil _ _ _ _ _, L⟩
      · refine E.GQ.doneB fun v8 lD => ?_
        replace b1 := blk_below b1 lD
        replace R7 := Kd.R_below R7 lD
        replace L := below_step L lD
        have lD8 := lD
        clear lD
        refine E.QG.code ?_
        refine E.CG.cond_f rfl ?_
        refine E.CG.skip ?_
        refine E.QG.code ?_
        refine E.CG.heldH (v7.ownBlock) (by kernel_rfl) fun v10 lD hh => ?_
        replace b1 := blk_below b1 lD
        replace R7 := Kd.R_below R7 lD
        replace L := below_step L lD
        clear lD
        have s_b1 := b1
        have s_L := L
        have s_r7 := R7
        refine E.GH.take (i := 0) rfl (by kernel_rfl) (by kernel_rfl) (by kernel_rfl) (by intro c a d v w h; first | (cases d <;> exact h) | exact nomatch (show _ ∧ _ from h).1) rfl rfl rfl (fun w' hS => (E.Runs.move rfl rfl)) ?_
        refine E.GH.take (i := 1) rfl (by kernel_rfl) (by kernel_rfl) (by kernel_rfl) (by intro c a d v w h; first | (cases d <;> exact h) | exact nomatch (show _ ∧ _ from h).1) rfl rfl rfl (fun w' hS => (E.Runs.fieldAddr rfl rfl hu25 rfl (by assumption) rfl)) ?_
        refine E.GH.take (i := 2) rfl (by kernel_rfl) (by kernel_rfl) (by kernel_rfl) (by intro c a d v w h; first | (cases d <;> exact h) | exact nomatch (show _ ∧ _ from h).1) rfl rfl rfl (fun w' hS => (E.Runs.load1 rfl rfl hu22 rfl (E.keeps hS (E.blkc s_b1 rfl) (Kd.R_ne s_r7 s_b1 (by decide))))) ?_
        refine E.GH.take (i := 3) rfl (by kernel_rfl) (by kernel_rfl) (by kernel_rfl) (by intro c a d v w h; first | (cases d <;> exact h) | exact nomatch (show _ ∧ _ from h).1) rfl rfl rfl (fun w' hS => (E.Runs.move rfl rfl)) ?_
        refine E.GH.take (i := 4) rfl (by kernel_rfl) (by kernel_rfl) (by kernel_rfl) (by intro c a d v w h; first | (cases d <;> exact h) | exact nomatch (show _ ∧ _ from h).1) rfl rfl rfl (fun w' hS => (E.Runs.indexAddrA (i := i) rfl rfl rfl hu22 z3 o3 (by omega) eA rfl)) ?_
        refine E.GH.take (i := 5) rfl (by kernel_rfl) (by kernel_rfl) (by kernel_rfl) (by intro c a d v w h; first | (cases d <;> exact h) | exact nomatch (show _ ∧ _ from h).1) rfl rfl rfl (fun w' hS => (E.Runs.load rfl rfl hu3 (pw_cell_below (s_L.grown hS s_L.size (fun k e => by have := Kd.R_base s_r7 k e; omega)) X))) ?_
        refine E.GH.take (i := 6) rfl (by kernel_rfl) (by kernel_rfl) (by kernel_rfl) (by intro c a d v w h; first | (cases d <;> exact h) | exact nomatch (show _ ∧ _ from h).1) rfl rfl rfl (fun w' hS => (E.Runs.fieldAddr rfl rfl hu25 rfl (by assumption) rfl)) ?_
        refine E.GH.take (i := 7) rfl (by kernel_rfl) (by kernel_rfl) (by kernel_rfl) (by intro c a d v w h; first | (cases d <;> exact h) | exact nomatch (show _ ∧ _ from h).1) rfl rfl rfl (fun w' hS => (E.Runs.load1 rfl rfl hu22 rfl (E.keeps hS (E.blkc s_b1 rfl) (Kd.R_ne s_r7 s_b1 (by decide))))) ?_
        refine E.GH.take (i := 8) rfl (by kernel_rfl) (by kernel_rfl) (by kernel_rfl) (by intro c a d v w h; first | (cases d <;> exact h) | exact nomatch (show _ ∧ _ from h).1) rfl rfl rfl (fun w' hS => (E.Runs.move rfl rfl)) ?_
        refine E.GH.take (i := 9) rfl (by kernel_rfl) (by kernel_rfl) (by kernel_rfl) (by intro c a d v w h; first | (cases d <;> exact h) | exact nomatch (show _ ∧ _ from h).1) rfl rfl rfl (fun w' hS => (E.Runs.indexAddrA (i := i) rfl rfl rfl hu22 z3 o3 (by omega) eB rfl)) ?_
        refine E.GH.take (i := 10) rfl (by kernel_rfl) (by kernel_rfl) (by kernel_rfl) (by intro c a d v w h; first | (cases d <;> exact h) | exact nomatch (show _ ∧ _ from h).1) rfl rfl rfl (fun w' hS => (E.Runs.load rfl rfl hu3 (pw_cell_below (s_L.grown hS s_L.size (fun k e => by have := Kd.R_base s_r7 k e; omega)) Y))) ?_
        refine E.GH.take (i := 11) rfl (by kernel_rfl) (by kernel_rfl) (by kernel_rfl) (by intro c a d v w h; first | (cases d <;> exact h) | exact nomatch (show _ ∧ _ from h).1) rfl rfl rfl (fun w' hS => (E.Runs.sub rfl rfl rfl (IntWalk.i64_in _ (by omega)))) ?_
        refine E.GH.one (i := 12) (by kernel_rfl) rfl ?_
        refine E.GO.st rfl rfl rfl (E.ST.lit rfl (E.epc rfl E.epn) (lit22 (x - y)) ⟨hh.trans (World.grownBy_alloc _ _ _), ?_⟩)
        refine E.GH.one (i := 13) (by kernel_rfl) rfl ?_
        refine E.GO.st rfl rfl rfl (E.ST.append kI w.heap.size (w0 := w) (s := .tmp 30) (x := .tmp 42) rfl hu22 info3 rfl (by decide) (by decide) (x - y) rfl rfl rfl (fun _ _ => trivial) R7 L L.size (by rw [absL_len]; omega) fun u43 w43 r43 k43 gr43 => ⟨hh.trans gr43, ?_⟩)
        replace b1 := blk_grown b1 gr43 (Kd.R_ne R7 b1 (by decide))
        replace L := k43
        clear R7 k43 gr43
        rw [absL_next V i hx hy] at r43
        refine E.GH.take (i := 14) rfl (by kernel_rfl) (by kernel_rfl) (by kernel_rfl) (by intro c a d v w h; first | (cases d <;> exact h) | exact nomatch (show _ ∧ _ from h).1) rfl rfl rfl (fun w' hS => (E.Runs.assign rfl rfl)) ?_
        refine E.GH.done (by kernel_rfl) ?_
        refine E.QG.block_normal ?_
        refine E.QG.code ?_
        refine E.CG.list ?_
        refine E.GL.run rfl rfl rfl (E.Runs.move rfl rfl) ?_
        refine E.GL.run rfl rfl rfl (E.Runs.add rfl rfl rfl (IntWalk.i64_in _ (by omega))) ?_
        refine E.GL.run rfl rfl rfl (E.Runs.assign rfl rfl) ?_
        refine E.GL.done ?_
        exact E.QG.round2 (d := .slice none 0 0) (i + 1) _ (E.subc rfl (E.subc rfl (E.subc rfl E.subn))) ⟨by omega, upto_more hk3 (by unfold badStub; rw [getD_of hx, getD_of hy]; simp; omega), b1, r43, L⟩ (by omega)
    · refine E.GL.done ?_
      refine E.QG.code ?_
      refine E.CG.cond_f rfl ?_
      refine E.CG.exit ?_
      refine E.QG.pass_exit ?_
      refine E.QG.pass_exit ?_
      refine E.QG.block_here ?_
      refine E.QG.code ?_
      refine E.CG.seq ?_
      refine E.CG.list ?_
      refine E.GL.run rfl rfl rfl (E.Runs.move rfl rfl) ?_
      refine E.GL.run rfl rfl rfl (E.Runs.assign rfl rfl) ?_
      refine E.GL.run rfl rfl rfl (E.Runs.assign rfl rfl) ?_
      refine E.GL.done ?_
      refine E.QG.code ?_
      refine E.CG.ret ?_
      have hnq := ok.nq
      obtain rfl : i = V.ps.length := by omega
      exact E.QG.result2 rfl rfl rfl ⟨_, by rw [absV_0 ok hk3], by rw [absV_0 ok hk3]; exact R7, L⟩
  · refine E.GL.run rfl rfl rfl (E.Runs.neq rfl rfl rfl (E.ne_t (by rw [chkV_no ok]; decide))) ?_
    refine E.GL.done ?_
    refine E.QG.code ?_
    refine E.CG.cond_t rfl ?_
    refine E.CG.seq ?_
    refine E.CG.list ?_
    refine E.GL.run rfl rfl rfl (E.Runs.move rfl rfl) ?_
    refine E.GL.run rfl rfl rfl (E.Runs.assign rfl rfl) ?_
    refine E.GL.run rfl rfl rfl (E.Runs.assign rfl rfl) ?_
    refine E.GL.done ?_
    refine E.QG.code ?_
    refine E.CG.ret ?_
    refine E.QG.pass_ret ?_
    exact E.QG.result2 rfl rfl rfl ⟨.slice none 0 0, by rw [absV_no ok, chkV_no ok], by rw [absV_no ok]; exact Kd.R_nil _ _ _ _ _, L⟩

set_option maxRecDepth 100000 in
set_option maxHeartbeats 8000000 in

theorem far_calls (V : Ev) (m : Ea) (w : World) (hV : EvM w V m) (r : Bool) (hr : r = true ↔ farV V) :
    Calls Try.prog 20 #[hv V m] w fun e w' => e = .returned (.bool r) ∧ Below w.heap.size w w' := by
  have hu3 := Try.underlying3
  have hu22 := Try.underlying22
  have hu23 := Try.underlying23
  have hu25 := Try.underlying25
  have hu40 := Try.underlying40
  obtain ⟨z3, o3⟩ := info_some info3s (by decide)
  obtain ⟨z22, o22⟩ := info_some info22s (by decide)
  obtain ⟨z23, o23⟩ := info_some info23s (by decide)
  obtain ⟨z40, o40⟩ := info_some info40s (by decide)
  refine E.enter (N := 63) Try.func20 rfl Try.ntmps20 (args := [hv V m]) (by simp) ?_
  have L := Below.refl w.heap.size w
  refine E.CG.seq ?_
  refine E.CG.list ?_
  refine E.GL.st rfl rfl rfl (E.ST.box rfl rfl fun g1 w1 e1 b1 l1 => ?_)
  have h1_L : w.heap.size ≤ g1 := by rw [e1]; exact L.size
  replace L := below_step L l1
  refine E.GL.run rfl rfl rfl (E.Runs.assign rfl rfl) ?_
  refine E.GL.done ?_
  refine E.QG.code ?_
  refine E.CG.seq ?_
  refine E.CG.seq ?_
  refine E.CG.list ?_
  refine E.GL.run rfl rfl rfl (E.Runs.fieldAddr rfl rfl hu25 rfl (by assumption) rfl) ?_
  refine E.GL.run rfl rfl rfl (E.Runs.load1 rfl rfl hu22 rfl (by first | assumption | exact E.blkc (by assumption) rfl | exact pw_cell_below L (by assumption))) ?_
  refine E.GL.run rfl rfl rfl (E.Runs.len rfl rfl hu22) ?_
  refine E.GL.cmp rfl rfl rfl (fun _ h => (E.Runs.gtr rfl rfl rfl h)) (fun h8 => ?_) (fun h8 => ?_)
  · refine E.GL.run rfl rfl rfl (E.Runs.move rfl rfl) ?_
    refine E.GL.skip rfl rfl rfl ?_
    refine E.GL.skip rfl rfl rfl ?_
    refine E.GL.skip rfl rfl rfl ?_
    refine E.GL.skip rfl rfl rfl ?_
    refine E.GL.run rfl rfl rfl (E.Runs.pick_t rfl rfl rfl) ?_
    refine E.GL.run rfl rfl rfl (E.Runs.move rfl rfl) ?_
    refine E.GL.skip rfl rfl rfl ?_
    refine E.GL.skip rfl rfl rfl ?_
    refine E.GL.skip rfl rfl rfl ?_
    refine E.GL.skip rfl rfl rfl ?_
    refine E.GL.run rfl rfl rfl (E.Runs.pick_t rfl rfl rfl) ?_
    refine E.GL.run rfl rfl rfl (E.Runs.move rfl rfl) ?_
    refine E.GL.skip rfl rfl rfl ?_
    refine E.GL.skip rfl rfl rfl ?_
    refine E.GL.skip rfl rfl rfl ?_
    refine E.GL.skip rfl rfl rfl ?_
    refine E.GL.run rfl rfl rfl (E.Runs.pick_t rfl rfl rfl) ?_
    refine E.GL.done ?_
    refine E.QG.code ?_
    refine E.CG.cond_t rfl ?_
    refine E.CG.seq ?_
    refine E.CG.list ?_
    refine E.GL.run rfl rfl rfl (E.Runs.assign rfl rfl) ?_
    refine E.GL.done ?_
    refine E.QG.code ?_
    refine E.CG.ret ?_
    refine E.QG.pass_ret ?_
    exact E.QG.result rfl rfl ⟨by rw [hr.mpr (by unfold farV bigV; omega)], L⟩
  · refine E.GL.run rfl rfl rfl (E.Runs.move rfl rfl) ?_
    refine E.GL.run rfl rfl rfl (E.Runs.fieldAddr rfl rfl hu25 rfl (by assumption) rfl) ?_
    refine E.GL.run rfl rfl rfl (E.Runs.load1 rfl rfl hu22 rfl (by first | assumption | exact E.blkc (by assumption) rfl | exact pw_cell_below L (by assumption))) ?_
    refine E.GL.run rfl rfl rfl (E.Runs.len rfl rfl hu22) ?_
    refine E.GL.cmp rfl rfl rfl (fun _ h => (E.Runs.gtr rfl rfl rfl h)) (fun h13 => ?_) (fun h13 => ?_)
    · refine E.GL.run rfl rfl rfl (E.Runs.pick_f rfl rfl rfl) ?_
      refine E.GL.run rfl rfl rfl (E.Runs.move rfl rfl) ?_
      refine E.GL.skip rfl rfl rfl ?_
      refine E.GL.skip rfl rfl rfl ?_
      refine E.GL.skip rfl rfl rfl ?_
      refine E.GL.skip rfl rfl rfl ?_
      refine E.GL.run rfl rfl rfl (E.Runs.pick_t rfl rfl rfl) ?_
      refine E.GL.run rfl rfl rfl (E.Runs.move rfl rfl) ?_
      refine E.GL.skip rfl rfl rfl ?_
      refine E.GL.skip rfl rfl rfl ?_
      refine E.GL.skip rfl rfl rfl ?_
      refine E.GL.skip rfl rfl rfl ?_
      refine E.GL.run rfl rfl rfl (E.Runs.pick_t rfl rfl rfl) ?_
      refine E.GL.done ?_
      refine E.QG.code ?_
      refine E.CG.cond_t rfl ?_
      refine E.CG.seq ?_
      refine E.CG.list ?_
      refine E.GL.run rfl rfl rfl (E.Runs.assign rfl rfl) ?_
      refine E.GL.done ?_
      refine E.QG.code ?_
      refine E.CG.ret ?_
      refine E.QG.pass_ret ?_
      exact E.QG.result rfl rfl ⟨by rw [hr.mpr (by unfold farV bigV; omega)], L⟩
    · refine E.GL.run rfl rfl rfl (E.Runs.pick_f rfl rfl rfl) ?_
      refine E.GL.run rfl rfl rfl (E.Runs.move rfl rfl) ?_
      refine E.GL.run rfl rfl rfl (E.Runs.fieldAddr rfl rfl hu25 rfl (by assumption) rfl) ?_
      refine E.GL.run rfl rfl rfl (E.Runs.load1 rfl rfl hu22 rfl (by first | assumption | exact E.blkc (by assumption) rfl | exact pw_cell_below L (by assumption))) ?_
      refine E.GL.run rfl rfl rfl (E.Runs.len rfl rfl hu22) ?_
      refine E.GL.cmp rfl rfl rfl (fun _ h => (E.Runs.gtr rfl rfl rfl h)) (fun h19 => ?_) (fun h19 => ?_)
      · refine E.GL.run rfl rfl rfl (E.Runs.pick_f rfl rfl rfl) ?_
        refine E.GL.run rfl rfl rfl (E.Runs.move rfl rfl) ?_
        refine E.GL.skip rfl rfl rfl ?_
        refine E.GL.skip rfl rfl rfl ?_
        refine E.GL.skip rfl rfl rfl ?_
        refine E.GL.skip rfl rfl rfl ?_
        refine E.GL.run rfl rfl rfl (E.Runs.pick_t rfl rfl rfl) ?_
        refine E.GL.done ?_
        refine E.QG.code ?_
        refine E.CG.cond_t rfl ?_
        refine E.CG.seq ?_
        refine E.CG.list ?_
        refine E.GL.run rfl rfl rfl (E.Runs.assign rfl rfl) ?_
        refine E.GL.done ?_
        refine E.QG.code ?_
        refine E.CG.ret ?_
        refine E.QG.pass_ret ?_
        exact E.QG.result rfl rfl ⟨by rw [hr.mpr (by unfold farV bigV; omega)], L⟩
      · refine E.GL.run rfl rfl rfl (E.Runs.pick_f rfl rfl rfl) ?_
        refine E.GL.run rfl rfl rfl (E.Runs.move rfl rfl) ?_
        refine E.GL.run rfl rfl rfl (E.Runs.fieldAddr rfl rfl hu25 rfl (by assumption) rfl) ?_
        refine E.GL.run rfl rfl rfl (E.Runs.load1 rfl rfl hu23 rfl (by first | assumption | exact E.blkc (by assumption) rfl | exact pw_cell_below L (by assumption))) ?_
        refine E.GL.run rfl rfl rfl (E.Runs.len rfl rfl hu23) ?_
        refine E.GL.cmp rfl rfl rfl (fun _ h => (E.Runs.gtr rfl rfl rfl h)) (fun h25 => ?_) (fun h25 => ?_)
        · refine E.GL.run rfl rfl rfl (E.Runs.pick_f rfl rfl rfl) ?_
          refine E.GL.done ?_
          refine E.QG.code ?_
          refine E.CG.cond_t rfl ?_
          refine E.CG.seq ?_
          refine E.CG.list ?_
          refine E.GL.run rfl rfl rfl (E.Runs.assign rfl rfl) ?_
          refine E.GL.done ?_
          refine E.QG.code ?_
          refine E.CG.ret ?_
          refine E.QG.pass_ret ?_
          exact E.QG.result rfl rfl ⟨by rw [hr.mpr (by unfold farV bigV; omega)], L⟩
        · refine E.GL.run rfl rfl rfl (E.Runs.pick_f rfl rfl rfl) ?_
          refine E.GL.done ?_
          refine E.QG.code ?_
          refine E.CG.cond_f rfl ?_
          refine E.CG.skip ?_
          refine E.QG.code ?_
          refine E.CG.seq ?_
          refine E.CG.seq ?_
          refine E.CG.list ?_
          refine E.GL.run rfl rfl rfl (E.Runs.assign rfl rfl) ?_
          refine E.GL.done ?_
          refine E.QG.code ?_
          refine E.CG.block ?_
          have s4_b1 := b1
          have s4_L := L
          refine E.CG.loop (fun (i : Nat) => [(1, .pointer (some ⟨g1, 0, none⟩)), (3, .int .i64 i)]) (fun i w' => i ≤ V.cs.length ∧ (∀ k, k < i → ∀ x, V.cs[k]? = some x → x.f0.length ≤ 30) ∧ w'.heap[g1]? = some (.cells #[.slice m.A V.ps.length m.a, .slice m.B V.qs.length m.b, .slice m.C V.ts.length m.c, .slice m.D V.cs.length m.d] 25 (0, 0)) ∧ Below w.heap.size w w') (fun i => V.cs.length - i) 0 (E.subc rfl (E.subc rfl E.subn)) ⟨Nat.zero_le _, fun k hk => by omega, b1, L⟩ ?_
          rintro i w4 ⟨hi, hk1, b1, L⟩
          refine E.CG.seq ?_
          refine E.CG.seq ?_
          refine E.CG.list ?_
          refine E.GL.run rfl rfl rfl (E.Runs.move rfl rfl) ?_
          refine E.GL.run rfl rfl rfl (E.Runs.fieldAddr rfl rfl hu25 rfl (by assumption) rfl) ?_
          refine E.GL.run rfl rfl rfl (E.Runs.load1 rfl rfl hu23 rfl (by first | assumption | exact E.blkc (by assumption) rfl | exact pw_cell_below L (by assumption))) ?_
          refine E.GL.run rfl rfl rfl (E.Runs.len rfl rfl hu23) ?_
          refine E.GL.cmp rfl rfl rfl (fun _ h => (E.Runs.lss rfl rfl rfl h)) (fun h31 => ?_) (fun h31 => ?_)
          · obtain ⟨x, hx⟩ := get_ex (show i < V.cs.length by omega)
            obtain ⟨ad, a0, k0, eA, hk0, hx0, X⟩ := till_at hV.cs hx
            refine E.GL.done ?_
            refine E.QG.code ?_
            refine E.CG.cond_t rfl ?_
            refine E.CG.skip ?_
            refine E.QG.code ?_
            refine E.CG.seq ?_
            refine E.CG.block ?_
            refine E.CG.seq ?_
            refine E.CG.list ?_
            refine E.GL.run rfl rfl rfl (E.Runs.fieldAddr rfl rfl hu25 rfl (by assumption) rfl) ?_
            refine E.GL.run rfl rfl rfl (E.Runs.load1 rfl rfl hu23 rfl (by first | assumption | exact E.blkc (by assumption) rfl | exact pw_cell_below L (by assumption))) ?_
            refine E.GL.run rfl rfl rfl (E.Runs.move rfl rfl) ?_
            refine E.GL.run rfl rfl rfl (E.Runs.indexAddrA (i := i) rfl rfl rfl hu23 z40 o40 (by omega) eA rfl) ?_
            refine E.GL.run rfl rfl rfl (E.Runs.fieldAddr rfl rfl hu40 rfl (by assumption) rfl) ?_
            refine E.GL.run rfl rfl rfl (E.Runs.load1 rfl rfl hu22 rfl (till_field X L 0 rfl)) ?_
            refine E.GL.run rfl rfl rfl (E.Runs.len rfl rfl hu22) ?_
            refine E.GL.cmp rfl rfl rfl (fun _ h => (E.Runs.gtr rfl rfl rfl h)) (fun h41 => ?_) (fun h41 => ?_)
            · refine E.GL.done ?_
              refine E.QG.code ?_
              refine E.CG.cond_t rfl ?_
              refine E.CG.seq ?_
              refine E.CG.list ?_
              refine E.GL.run rfl rfl rfl (E.Runs.assign rfl rfl) ?_
              refine E.GL.done ?_
              refine E.QG.code ?_
              refine E.CG.ret ?_
              refine E.QG.block_ret ?_
              refine E.QG.pass_ret ?_
              refine E.QG.pass_ret ?_
              refine E.QG.block_ret ?_
              refine E.QG.pass_ret ?_
              exact E.QG.result rfl rfl ⟨by rw [hr.mpr ((.inl (.inr (.inr (.inr (.inr ⟨x, List.mem_of_getElem? hx, by omega⟩))))))], L⟩
            · refine E.GL.done ?_
              refine E.QG.code ?_
              refine E.CG.cond_f rfl ?_
              refine E.CG.skip ?_
              refine E.QG.block_normal ?_
              refine E.QG.code ?_
              refine E.CG.list ?_
              refine E.GL.run rfl rfl rfl (E.Runs.move rfl rfl) ?_
              refine E.GL.run rfl rfl rfl (E.Runs.add rfl rfl rfl (IntWalk.i64_in _ (by omega))) ?_
              refine E.GL.run rfl rfl rfl (E.Runs.assign rfl rfl) ?_
              refine E.GL.done ?_
              exact E.QG.round (i + 1) (E.subc rfl (E.subc rfl E.subn)) ⟨by omega, all_more hk1 hx (by omega), b1, L⟩ (by omega)
          · have hall : ∀ x ∈ V.cs, x.f0.length ≤ 30 := all_done hk1 (by omega)
            have hz : Sz V := ⟨by omega, by omega, by omega, by omega, fun x hx => by have := hall x hx; omega⟩
            have hnb : ¬ bigV V := by
              unfold bigV
              rintro (q | q | q | q | ⟨x, q1, q2⟩)
              · omega
              · omega
              · omega
              · omega
              · have := hall x q1; omega
            refine E.GL.done ?_
            refine E.QG.code ?_
            refine E.CG.cond_f rfl ?_
            refine E.CG.exit ?_
            refine E.QG.pass_exit ?_
            refine E.QG.pass_exit ?_
            refine E.QG.block_here ?_
            refine E.QG.code ?_
            refine E.CG.seq ?_
            refine E.CG.seq ?_
            refine E.CG.list ?_
            refine E.GL.run rfl rfl rfl (E.Runs.loads (cs := [.slice m.A V.ps.length m.a, .slice m.B V.qs.length m.b, .slice m.C V.ts.length m.c, .slice m.D V.cs.length m.d]) rfl rfl hu25 rfl info25s (blk_cells b1)) ?_
            refine E.GL.st rfl rfl rfl (E.ST.call rfl ent34 (E.evc rfl E.evn) ((check34 V m _ (hV.below L) hz).mono ?_))
            rintro e w43 ⟨rfl, l43⟩
            refine ⟨_, rfl, ?_⟩
            replace b1 := blk_below b1 l43
            replace L := below_step L l43
            by_cases ok : VOk V
            · refine E.GL.run rfl rfl rfl (E.Runs.neq rfl rfl rfl (E.ne_f (chkV_yes ok))) ?_
              refine E.GL.done ?_
              refine E.QG.code ?_
              refine E.CG.cond_f rfl ?_
              refine E.CG.skip ?_
              refine E.QG.code ?_
              refine E.CG.seq ?_
              refine E.CG.seq ?_
              refine E.CG.list ?_
              refine E.GL.run rfl rfl rfl (E.Runs.assign rfl rfl) ?_
              refine E.GL.done ?_
              refine E.QG.code ?_
              refine E.CG.block ?_
              have s11_b1 := b1
              have s11_L := L
              refine E.CG.loop (fun (i : Nat) => [(1, .pointer (some ⟨g1, 0, none⟩)), (4, .int .i64 i)]) (fun i w' => i ≤ V.cs.length ∧ (∀ k, k < i → ∀ x, V.cs[k]? = some x → rl x ≤ 7) ∧ w'.heap[g1]? = some (.cells #[.slice m.A V.ps.length m.a, .slice m.B V.qs.length m.b, .slice m.C V.ts.length m.c, .slice m.D V.cs.length m.d] 25 (0, 0)) ∧ Below w.heap.size w w') (fun i => V.cs.length - i) 0 (E.subc rfl (E.subc rfl E.subn)) ⟨Nat.zero_le _, fun k hk => by omega, b1, L⟩ ?_
              rintro i w11 ⟨hi, hk2, b1, L⟩
              refine E.CG.seq ?_
              refine E.CG.seq ?_
              refine E.CG.list ?_
              refine E.GL.run rfl rfl rfl (E.Runs.move rfl rfl) ?_
              refine E.GL.run rfl rfl rfl (E.Runs.fieldAddr rfl rfl hu25 rfl (by assumption) rfl) ?_
              refine E.GL.run rfl rfl rfl (E.Runs.load1 rfl rfl hu23 rfl (by first | assumption | exact E.blkc (by assumption) rfl | exact pw_cell_below L (by assumption))) ?_
              refine E.GL.run rfl rfl rfl (E.Runs.len rfl rfl hu23) ?_
              refine E.GL.cmp rfl rfl rfl (fun _ h => (E.Runs.lss rfl rfl rfl h)) (fun h49 => ?_) (fun h49 => ?_)
              · obtain ⟨x, hx⟩ := get_ex (show i < V.cs.length by omega)
                obtain ⟨ad, a0, k0, eA, hk0, hx0, X⟩ := till_at hV.cs hx
                obtain ⟨q1, q2, q3, q4, q5, q6, q7, q8⟩ := ok.c x (List.mem_of_getElem? hx)
                refine E.GL.done ?_
                refine E.QG.code ?_
                refine E.CG.cond_t rfl ?_
                refine E.CG.skip ?_
                refine E.QG.code ?_
                refine E.CG.seq ?_
                refine E.CG.block ?_
                refine E.CG.seq ?_
                refine E.CG.list ?_
                refine E.GL.run rfl rfl rfl (E.Runs.fieldAddr rfl rfl hu25 rfl (by assumption) rfl) ?_
                refine E.GL.run rfl rfl rfl (E.Runs.load1 rfl rfl hu23 rfl (by first | assumption | exact E.blkc (by assumption) rfl | exact pw_cell_below L (by assumption))) ?_
                refine E.GL.run rfl rfl rfl (E.Runs.move rfl rfl) ?_
                refine E.GL.run rfl rfl rfl (E.Runs.indexAddrA (i := i) rfl rfl rfl hu23 z40 o40 (by omega) eA rfl) ?_
                refine E.GL.run rfl rfl rfl (E.Runs.loads (cs := [.slice a0 x.f0.length k0, .int .i64 x.f1, .int .i64 x.f2, .int .i64 x.f3, .int .i64 x.f4, .int .i64 x.f5]) rfl rfl hu40 rfl info40s (till_cells X L)) ?_
                refine E.GL.st rfl rfl rfl (E.ST.call rfl ent38 (E.evc rfl E.evn) ((roll_r x a0 k0 _ q3 q4 q7).mono ?_))
                rintro e w57 ⟨rfl, l57⟩
                refine ⟨_, rfl, ?_⟩
                replace b1 := blk_below b1 l57
                replace L := below_step L l57
                refine E.GL.cmp rfl rfl rfl (fun _ h => (E.Runs.gtr rfl rfl rfl h)) (fun h58 => ?_) (fun h58 => ?_)
                · refine E.GL.done ?_
                  refine E.QG.code ?_
                  refine E.CG.cond_t rfl ?_
                  refine E.CG.seq ?_
                  refine E.CG.list ?_
                  refine E.GL.run rfl rfl rfl (E.Runs.assign rfl rfl) ?_
                  refine E.GL.done ?_
                  refine E.QG.code ?_
                  refine E.CG.ret ?_
                  refine E.QG.block_ret ?_
                  refine E.QG.pass_ret ?_
                  refine E.QG.pass_ret ?_
                  refine E.QG.block_ret ?_
                  refine E.QG.pass_ret ?_
                  exact E.QG.result rfl rfl ⟨by rw [hr.mpr ((.inr ⟨ok, .inr ⟨x, List.mem_of_getElem? hx, by omega⟩⟩))], L⟩
                · refine E.GL.done ?_
                  refine E.QG.code ?_
                  refine E.CG.cond_f rfl ?_
                  refine E.CG.skip ?_
                  refine E.QG.block_normal ?_
                  refine E.QG.code ?_
                  refine E.CG.list ?_
                  refine E.GL.run rfl rfl rfl (E.Runs.move rfl rfl) ?_
                  refine E.GL.run rfl rfl rfl (E.Runs.add rfl rfl rfl (IntWalk.i64_in _ (by omega))) ?_
                  refine E.GL.run rfl rfl rfl (E.Runs.assign rfl rfl) ?_
                  refine E.GL.done ?_
                  exact E.QG.round (i + 1) (E.subc rfl (E.subc rfl E.subn)) ⟨by omega, all_more hk2 hx (by omega), b1, L⟩ (by omega)
              · have hall2 : ∀ x ∈ V.cs, rl x ≤ 7 := all_done hk2 (by omega)
                refine E.GL.done ?_
                refine E.QG.code ?_
                refine E.CG.cond_f rfl ?_
                refine E.CG.exit ?_
                refine E.QG.pass_exit ?_
                refine E.QG.pass_exit ?_
                refine E.QG.block_here ?_
                refine E.QG.code ?_
                refine E.CG.seq ?_
                refine E.CG.list ?_
                refine E.GL.run rfl rfl rfl (E.Runs.fieldAddr rfl rfl hu25 rfl (by assumption) rfl) ?_
                refine E.GL.run rfl rfl rfl (E.Runs.load1 rfl rfl hu23 rfl (by first | assumption | exact E.blkc (by assumption) rfl | exact pw_cell_below L (by assumption))) ?_
                refine E.GL.run rfl rfl rfl (E.Runs.len rfl rfl hu23) ?_
                refine E.GL.cmp rfl rfl rfl (fun _ h => (E.Runs.gtr rfl rfl rfl h)) (fun h62 => ?_) (fun h62 => ?_)
                · refine E.GL.run rfl rfl rfl (E.Runs.assign rfl rfl) ?_
                  refine E.GL.done ?_
                  refine E.QG.code ?_
                  refine E.CG.ret ?_
                  exact E.QG.result rfl rfl ⟨by rw [hr.mpr ((.inr ⟨ok, .inl (by omega)⟩))], L⟩
                · refine E.GL.run rfl rfl rfl (E.Runs.assign rfl rfl) ?_
                  refine E.GL.done ?_
                  refine E.QG.code ?_
                  refine E.CG.ret ?_
                  exact E.QG.result rfl rfl ⟨by rw [bool_no hr (fun k => by
                      rcases k with k | ⟨_, k | ⟨x, q1, q2⟩⟩
                      · exact hnb k
                      · omega
                      · have := hall2 x q1; omega)], L⟩
            · refine E.GL.run rfl rfl rfl (E.Runs.neq rfl rfl rfl (E.ne_t (by rw [chkV_no ok]; decide))) ?_
              refine E.GL.done ?_
              refine E.QG.code ?_
              refine E.CG.cond_t rfl ?_
              refine E.CG.seq ?_
              refine E.CG.list ?_
              refine E.GL.run rfl rfl rfl (E.Runs.assign rfl rfl) ?_
              refine E.GL.done ?_
              refine E.QG.code ?_
              refine E.CG.ret ?_
              refine E.QG.pass_ret ?_
              exact E.QG.result rfl rfl ⟨by rw [bool_no hr (fun k => k.elim hnb (fun q => ok q.1))], L⟩

set_option maxRecDepth 100000 in
set_option maxHeartbeats 8000000 in

theorem sameV_calls (V U : Ev) (m u : Ea) (w : World) (hV : EvM w V m) (hU : EvM w U u) (hs : Sz V) (r : Bool) (hr : r = true ↔ V = U) :
    Calls Try.prog 27 #[hv V m, hv U u] w fun e w' => e = .returned (.bool r) ∧ Below w.heap.size w w' := by
  have hsc := hs.c
  have hu3 := Try.underlying3
  have hu22 := Try.underlying22
  have hu23 := Try.underlying23
  have hu25 := Try.underlying25
  have hu40 := Try.underlying40
  obtain ⟨z3, o3⟩ := info_some info3s (by decide)
  obtain ⟨z22, o22⟩ := info_some info22s (by decide)
  obtain ⟨z23, o23⟩ := info_some info23s (by decide)
  obtain ⟨z40, o40⟩ := info_some info40s (by decide)
  refine E.enter (N := 97) Try.func27 rfl Try.ntmps27 (args := [hv V m, hv U u]) (by simp) ?_
  have L := Below.refl w.heap.size w
  refine E.CG.seq ?_
  refine E.CG.list ?_
  refine E.GL.st rfl rfl rfl (E.ST.box rfl rfl fun g2 w2 e2 b2 l2 => ?_)
  have h2_L : w.heap.size ≤ g2 := by rw [e2]; exact L.size
  replace L := below_step L l2
  refine E.GL.st rfl rfl rfl (E.ST.box rfl rfl fun g3 w3 e3 b3 l3 => ?_)
  have h3_L : w.heap.size ≤ g3 := by rw [e3]; exact L.size
  have n3_b2 : g2 ≠ g3 := by have := blk_lt b2; omega
  replace b2 := blk_below b2 l3
  replace L := below_step L l3
  refine E.GL.run rfl rfl rfl (E.Runs.assign rfl rfl) ?_
  refine E.GL.done ?_
  refine E.QG.code ?_
  refine E.CG.seq ?_
  refine E.CG.seq ?_
  refine E.CG.list ?_
  refine E.GL.run rfl rfl rfl (E.Runs.fieldAddr rfl rfl hu25 rfl (by assumption) rfl) ?_
  refine E.GL.run rfl rfl rfl (E.Runs.load1 rfl rfl hu22 rfl (by first | assumption | exact E.blkc (by assumption) rfl | exact pw_cell_below L (by assumption))) ?_
  refine E.GL.run rfl rfl rfl (E.Runs.fieldAddr rfl rfl hu25 rfl (by assumption) rfl) ?_
  refine E.GL.run rfl rfl rfl (E.Runs.load1 rfl rfl hu22 rfl (by first | assumption | exact E.blkc (by assumption) rfl | exact pw_cell_below L (by assumption))) ?_
  by_cases h12 : V.ps = U.ps
  · refine E.GL.st rfl rfl rfl (E.ST.call rfl ent26 (E.evc rfl (E.evc rfl E.evn)) ((same_calls V.ps U.ps m.A u.A m.a u.a _ true (iff_of_true rfl h12) (hV.below L).ps (hU.below L).ps hs.p).mono ?_))
    rintro e w12 ⟨rfl, l12⟩
    refine ⟨_, rfl, ?_⟩
    replace b2 := blk_below b2 l12
    replace b3 := blk_below b3 l12
    replace L := below_step L l12
    refine E.GL.run rfl rfl rfl (E.Runs.not rfl rfl) ?_
    refine E.GL.run rfl rfl rfl (E.Runs.move rfl rfl) ?_
    refine E.GL.run rfl rfl rfl (E.Runs.fieldAddr rfl rfl hu25 rfl (by assumption) rfl) ?_
    refine E.GL.run rfl rfl rfl (E.Runs.load1 rfl rfl hu22 rfl (by first | assumption | exact E.blkc (by assumption) rfl | exact pw_cell_below L (by assumption))) ?_
    refine E.GL.run rfl rfl rfl (E.Runs.fieldAddr rfl rfl hu25 rfl (by assumption) rfl) ?_
    refine E.GL.run rfl rfl rfl (E.Runs.load1 rfl rfl hu22 rfl (by first | assumption | exact E.blkc (by assumption) rfl | exact pw_cell_below L (by assumption))) ?_
    by_cases h19 : V.qs = U.qs
    · refine E.GL.st rfl rfl rfl (E.ST.call rfl ent26 (E.evc rfl (E.evc rfl E.evn)) ((same_calls V.qs U.qs m.B u.B m.b u.b _ true (iff_of_true rfl h19) (hV.below L).qs (hU.below L).qs hs.q).mono ?_))
      rintro e w19 ⟨rfl, l19⟩
      refine ⟨_, rfl, ?_⟩
      replace b2 := blk_below b2 l19
      replace b3 := blk_below b3 l19
      replace L := below_step L l19
      refine E.GL.run rfl rfl rfl (E.Runs.not rfl rfl) ?_
      refine E.GL.run rfl rfl rfl (E.Runs.pick_f rfl rfl rfl) ?_
      refine E.GL.run rfl rfl rfl (E.Runs.move rfl rfl) ?_
      refine E.GL.run rfl rfl rfl (E.Runs.fieldAddr rfl rfl hu25 rfl (by assumption) rfl) ?_
      refine E.GL.run rfl rfl rfl (E.Runs.load1 rfl rfl hu22 rfl (by first | assumption | exact E.blkc (by assumption) rfl | exact pw_cell_below L (by assumption))) ?_
      refine E.GL.run rfl rfl rfl (E.Runs.fieldAddr rfl rfl hu25 rfl (by assumption) rfl) ?_
      refine E.GL.run rfl rfl rfl (E.Runs.load1 rfl rfl hu22 rfl (by first | assumption | exact E.blkc (by assumption) rfl | exact pw_cell_below L (by assumption))) ?_
      by_cases h27 : V.ts = U.ts
      · refine E.GL.st rfl rfl rfl (E.ST.call rfl ent26 (E.evc rfl (E.evc rfl E.evn)) ((same_calls V.ts U.ts m.C u.C m.c u.c _ true (iff_of_true rfl h27) (hV.below L).ts (hU.below L).ts hs.t).mono ?_))
        rintro e w27 ⟨rfl, l27⟩
        refine ⟨_, rfl, ?_⟩
        replace b2 := blk_below b2 l27
        replace b3 := blk_below b3 l27
        replace L := below_step L l27
        refine E.GL.run rfl rfl rfl (E.Runs.not rfl rfl) ?_
        refine E.GL.run rfl rfl rfl (E.Runs.pick_f rfl rfl rfl) ?_
        refine E.GL.run rfl rfl rfl (E.Runs.move rfl rfl) ?_
        refine E.GL.run rfl rfl rfl (E.Runs.fieldAddr rfl rfl hu25 rfl (by assumption) rfl) ?_
        refine E.GL.run rfl rfl rfl (E.Runs.load1 rfl rfl hu23 rfl (by first | assumption | exact E.blkc (by assumption) rfl | exact pw_cell_below L (by assumption))) ?_
        refine E.GL.run rfl rfl rfl (E.Runs.len rfl rfl hu23) ?_
        refine E.GL.run rfl rfl rfl (E.Runs.fieldAddr rfl rfl hu25 rfl (by assumption) rfl) ?_
        refine E.GL.run rfl rfl rfl (E.Runs.load1 rfl rfl hu23 rfl (by first | assumption | exact E.blkc (by assumption) rfl | exact pw_cell_below L (by assumption))) ?_
        refine E.GL.run rfl rfl rfl (E.Runs.len rfl rfl hu23) ?_
        refine E.GL.cmpn rfl rfl rfl (fun _ h => (E.Runs.neq rfl rfl rfl h)) (fun h37 => ?_) (fun h37 => ?_)
        · refine E.GL.run rfl rfl rfl (E.Runs.pick_f rfl rfl rfl) ?_
          refine E.GL.done ?_
          refine E.QG.code ?_
          refine E.CG.cond_t rfl ?_
          refine E.CG.seq ?_
          refine E.CG.list ?_
          refine E.GL.run rfl rfl rfl (E.Runs.assign rfl rfl) ?_
          refine E.GL.done ?_
          refine E.QG.code ?_
          refine E.CG.ret ?_
          refine E.QG.pass_ret ?_
          exact E.QG.result rfl rfl ⟨by rw [bool_no hr (fun k => h37 (by rw [k]))], L⟩
        · refine E.GL.run rfl rfl rfl (E.Runs.pick_f rfl rfl rfl) ?_
          refine E.GL.done ?_
          refine E.QG.code ?_
          refine E.CG.cond_f rfl ?_
          refine E.CG.skip ?_
          refine E.QG.code ?_
          refine E.CG.seq ?_
          refine E.CG.seq ?_
          refine E.CG.list ?_
          refine E.GL.run rfl rfl rfl (E.Runs.assign rfl rfl) ?_
          refine E.GL.done ?_
          refine E.QG.code ?_
          refine E.CG.block ?_
          have s4_b2 := b2
          have s4_b3 := b3
          have s4_L := L
          refine E.CG.loop (fun (i : Nat) => [(2, .pointer (some ⟨g2, 0, none⟩)), (3, .pointer (some ⟨g3, 0, none⟩)), (5, .int .i64 i)]) (fun i w' => i ≤ V.cs.length ∧ (∀ j, j < i → V.cs[j]? = U.cs[j]?) ∧ w'.heap[g2]? = some (.cells #[.slice m.A V.ps.length m.a, .slice m.B V.qs.length m.b, .slice m.C V.ts.length m.c, .slice m.D V.cs.length m.d] 25 (0, 0)) ∧ w'.heap[g3]? = some (.cells #[.slice u.A U.ps.length u.a, .slice u.B U.qs.length u.b, .slice u.C U.ts.length u.c, .slice u.D U.cs.length u.d] 25 (0, 0)) ∧ Below w.heap.size w w') (fun i => V.cs.length - i) 0 (E.subc rfl (E.subc rfl (E.subc rfl E.subn))) ⟨Nat.zero_le _, fun k hk => by omega, b2, b3, L⟩ ?_
          rintro i w4 ⟨hi, hk, b2, b3, L⟩
          refine E.CG.seq ?_
          refine E.CG.seq ?_
          refine E.CG.list ?_
          refine E.GL.run rfl rfl rfl (E.Runs.move rfl rfl) ?_
          refine E.GL.run rfl rfl rfl (E.Runs.fieldAddr rfl rfl hu25 rfl (by assumption) rfl) ?_
          refine E.GL.run rfl rfl rfl (E.Runs.load1 rfl rfl hu23 rfl (by first | assumption | exact E.blkc (by assumption) rfl | exact pw_cell_below L (by assumption))) ?_
          refine E.GL.run rfl rfl rfl (E.Runs.len rfl rfl hu23) ?_
          refine E.GL.cmp rfl rfl rfl (fun _ h => (E.Runs.lss rfl rfl rfl h)) (fun h43 => ?_) (fun h43 => ?_)
          · obtain ⟨x, hx⟩ := get_ex (show i < V.cs.length by omega)
            obtain ⟨ad, a0, k0, eA, hk0, hx0, X⟩ := till_at hV.cs hx
            obtain ⟨y, hy⟩ := get_ex (show i < U.cs.length by omega)
            obtain ⟨ae, a1, k1, eB, hk1, hy0, Y⟩ := till_at hU.cs hy
            have hiv : (i : Int) < V.cs.length := by omega
            have hiu : (i : Int) < U.cs.length := by omega
            refine E.GL.done ?_
            refine E.QG.code ?_
            refine E.CG.cond_t rfl ?_
            refine E.CG.skip ?_
            refine E.QG.code ?_
            refine E.CG.seq ?_
            refine E.CG.block ?_
            refine E.CG.seq ?_
            refine E.CG.cut2 (fun (g6 : Nat) (g7 : Nat) => [(2, .pointer (some ⟨g2, 0, none⟩)), (3, .pointer (some ⟨g3, 0, none⟩)), (5, .int .i64 i), (6, .pointer (some ⟨g6, 0, none⟩)), (7, .pointer (some ⟨g7, 0, none⟩))]) (fun g6 g7 w' => w'.heap[g2]? = some (.cells #[.slice m.A V.ps.length m.a, .slice m.B V.qs.length m.b, .slice m.C V.ts.length m.c, .slice m.D V.cs.length m.d] 25 (0, 0)) ∧ w'.heap[g3]? = some (.cells #[.slice u.A U.ps.length u.a, .slice u.B U.qs.length u.b, .slice u.C U.ts.length u.c, .slice u.D U.cs.length u.d] 25 (0, 0)) ∧ w'.heap[g6]? = some (.cells #[.slice a0 x.f0.length k0, .int .i64 x.f1, .int .i64 x.f2, .int .i64 x.f3, .int .i64 x.f4, .int .i64 x.f5] 40 (0, 0)) ∧ w'.heap[g7]? = some (.cells #[.slice a1 y.f0.length k1, .int .i64 y.f1, .int .i64 y.f2, .int .i64 y.f3, .int .i64 y.f4, .int .i64 y.f5] 40 (0, 0)) ∧ Below w.heap.size w w') ?_ ?_
            · refine E.CG.heldH (none) (by kernel_rfl) fun v6 lD hh => ?_
              replace b2 := blk_below b2 lD
              replace b3 := blk_below b3 lD
              replace L := below_step L lD
              clear lD
              have s_b2 := b2
              have s_b3 := b3
              have s_L := L
              refine E.GH.take (i := 0) rfl (by kernel_rfl) (by kernel_rfl) (by kernel_rfl) E.calm_cut2 rfl rfl rfl (fun w' hS => (E.Runs.fieldAddr rfl rfl hu25 rfl (by assumption) rfl)) ?_
              refine E.GH.take (i := 1) rfl (by kernel_rfl) (by kernel_rfl) (by kernel_rfl) E.calm_cut2 rfl rfl rfl (fun w' hS => (E.Runs.load1 rfl rfl hu23 rfl (by first | exact E.keeps hS (E.blkc (by assumption) rfl) (by first | exact E.nen | exact E.nes (by assumption) | exact E.nes (Ne.symm (by assumption))) | exact pw_cell_below (below_step s_L (E.belowG hS)) (by assumption)))) ?_
              refine E.GH.take (i := 2) rfl (by kernel_rfl) (by kernel_rfl) (by kernel_rfl) E.calm_cut2 rfl rfl rfl (fun w' hS => (E.Runs.move rfl rfl)) ?_
              refine E.GH.take (i := 3) rfl (by kernel_rfl) (by kernel_rfl) (by kernel_rfl) E.calm_cut2 rfl rfl rfl (fun w' hS => (E.Runs.indexAddrA (i := i) rfl rfl rfl hu23 z40 o40 hiv eA rfl)) ?_
              refine E.GH.take (i := 4) rfl (by kernel_rfl) (by kernel_rfl) (by kernel_rfl) E.calm_cut2 rfl rfl rfl (fun w' hS => (E.Runs.loads (cs := [.slice a0 x.f0.length k0, .int .i64 x.f1, .int .i64 x.f2, .int .i64 x.f3, .int .i64 x.f4, .int .i64 x.f5]) rfl rfl hu40 rfl info40s (till_cells X (below_step s_L (E.belowG hS))))) ?_
              refine E.GH.take (i := 5) rfl (by kernel_rfl) (by kernel_rfl) (by kernel_rfl) E.calm_cut2 rfl rfl rfl (fun w' hS => (E.Runs.fieldAddr rfl rfl hu25 rfl (by assumption) rfl)) ?_
              refine E.GH.take (i := 6) rfl (by kernel_rfl) (by kernel_rfl) (by kernel_rfl) E.calm_cut2 rfl rfl rfl (fun w' hS => (E.Runs.load1 rfl rfl hu23 rfl (by first | exact E.keeps hS (E.blkc (by assumption) rfl) (by first | exact E.nen | exact E.nes (by assumption) | exact E.nes (Ne.symm (by assumption))) | exact pw_cell_below (below_step s_L (E.belowG hS)) (by assumption)))) ?_
              refine E.GH.take (i := 7) rfl (by kernel_rfl) (by kernel_rfl) (by kernel_rfl) E.calm_cut2 rfl rfl rfl (fun w' hS => (E.Runs.move rfl rfl)) ?_
              refine E.GH.take (i := 8) rfl (by kernel_rfl) (by kernel_rfl) (by kernel_rfl) E.calm_cut2 rfl rfl rfl (fun w' hS => (E.Runs.indexAddrA (i := i) rfl rfl rfl hu23 z40 o40 hiu eB rfl)) ?_
              refine E.GH.take (i := 9) rfl (by kernel_rfl) (by kernel_rfl) (by kernel_rfl) E.calm_cut2 rfl rfl rfl (fun w' hS => (E.Runs.loads (cs := [.slice a1 y.f0.length k1, .int .i64 y.f1, .int .i64 y.f2, .int .i64 y.f3, .int .i64 y.f4, .int .i64 y.f5]) rfl rfl hu40 rfl info40s (till_cells Y (below_step s_L (E.belowG hS))))) ?_
              refine E.GH.all (rs := [10, 11]) (by kernel_rfl) (by simp) (E.GHs.cons rfl ?_ (E.GHs.cons rfl ?_ E.GHs.nil))
              · refine E.GO.st rfl rfl rfl (E.ST.alloc rfl info40z fun g6 w6 e6 b6 l6 => ⟨hh.trans (E.gbB l6), ?_⟩)
                have hh0 := hh
                replace hh := hh.trans (E.gbB l6)
                have h6_hh : v6.heap.size ≤ g6 := by rw [e6]; exact hh0.size
                have h6_L : w.heap.size ≤ g6 := by rw [e6]; exact L.size
                have n6_b2 : g2 ≠ g6 := by have := blk_lt b2; omega
                have n6_b3 : g3 ≠ g6 := by have := blk_lt b3; omega
                clear hh0
                replace b2 := blk_below b2 l6
                replace b3 := blk_below b3 l6
                replace L := below_step L l6
                refine E.GH.one (i := 11) (by kernel_rfl) rfl ?_
                refine E.GO.st rfl rfl rfl (E.ST.alloc rfl info40z fun g7 w7 e7 b7 l7 => ⟨hh.trans (E.gbB l7), ?_⟩)
                have hh0 := hh
                replace hh := hh.trans (E.gbB l7)
                have h7_hh : v6.heap.size ≤ g7 := by rw [e7]; exact hh0.size
                have h7_L : w.heap.size ≤ g7 := by rw [e7]; exact L.size
                have n7_b2 : g2 ≠ g7 := by have := blk_lt b2; omega
                have n7_b3 : g3 ≠ g7 := by have := blk_lt b3; omega
                have n7_b6 : g6 ≠ g7 := by have := blk_lt b6; omega
                clear hh0
                replace b2 := blk_below b2 l7
                replace b3 := blk_below b3 l7
                replace b6 := blk_below b6 l7
                replace L := below_step L l7
                refine E.GH.one (i := 12) (by kernel_rfl) rfl ?_
                refine E.GO.sn rfl rfl (E.ST.storeS (off := 0) (cells := [.slice a0 x.f0.length k0, .int .i64 x.f1, .int .i64 x.f2, .int .i64 x.f3, .int .i64 x.f4, .int .i64 x.f5]) rfl rfl rfl b6 rfl info40s (cells6_one _ _ _ _ _ _ _ _) rfl fun wS6_12 c6 lS6_12 => ⟨E.gb_own hh h6_hh lS6_12, ?_⟩)
                replace hh := E.gb_own hh h6_hh lS6_12
                replace b2 := blk_grown b2 lS6_12 (E.nes (by first | assumption | exact Ne.symm (by assumption)))
                replace b3 := blk_grown b3 lS6_12 (E.nes (by first | assumption | exact Ne.symm (by assumption)))
                replace b7 := blk_grown b7 lS6_12 (E.nes (by first | assumption | exact Ne.symm (by assumption)))
                replace L := E.below_own L h6_L lS6_12
                replace b6 := c6
                clear c6
                refine E.GH.one (i := 13) (by kernel_rfl) rfl ?_
                refine E.GO.sn rfl rfl (E.ST.storeS (off := 0) (cells := [.slice a1 y.f0.length k1, .int .i64 y.f1, .int .i64 y.f2, .int .i64 y.f3, .int .i64 y.f4, .int .i64 y.f5]) rfl rfl rfl b7 rfl info40s (cells6_one _ _ _ _ _ _ _ _) rfl fun wS6_13 c7 lS6_13 => ⟨E.gb_own hh h7_hh lS6_13, ?_⟩)
                replace hh := E.gb_own hh h7_hh lS6_13
                replace b2 := blk_grown b2 lS6_13 (E.nes (by first | assumption | exact Ne.symm (by assumption)))
                replace b3 := blk_grown b3 lS6_13 (E.nes (by first | assumption | exact Ne.symm (by assumption)))
                replace b6 := blk_grown b6 lS6_13 (E.nes (by first | assumption | exact Ne.symm (by assumption)))
                replace L := E.below_own L h7_L lS6_13
                replace b7 := c7
                clear c7
                refine E.GH.done (by kernel_rfl) ?_
                exact E.QG.meet2 _ _ (E.subc rfl (E.subc rfl (E.subc rfl (E.subc rfl (E.subc rfl (E.subn)))))) ⟨b2, b3, b6, b7, L⟩
              · refine E.GO.st rfl rfl rfl (E.ST.alloc rfl info40z fun g7 w7 e7 b7 l7 => ⟨hh.trans (E.gbB l7), ?_⟩)
                have hh0 := hh
                replace hh := hh.trans (E.gbB l7)
                have h7_hh : v6.heap.size ≤ g7 := by rw [e7]; exact hh0.size
                have h7_L : w.heap.size ≤ g7 := by rw [e7]; exact L.size
                have n7_b2 : g2 ≠ g7 := by have := blk_lt b2; omega
                have n7_b3 : g3 ≠ g7 := by have := blk_lt b3; omega
                clear hh0
                replace b2 := blk_below b2 l7
                replace b3 := blk_below b3 l7
                replace L := below_step L l7
                refine E.GH.one (i := 10) (by kernel_rfl) rfl ?_
                refine E.GO.st rfl rfl rfl (E.ST.alloc rfl info40z fun g6 w6 e6 b6 l6 => ⟨hh.trans (E.gbB l6), ?_⟩)
                have hh0 := hh
                replace hh := hh.trans (E.gbB l6)
                have h6_hh : v6.heap.size ≤ g6 := by rw [e6]; exact hh0.size
                have h6_L : w.heap.size ≤ g6 := by rw [e6]; exact L.size
                have n6_b2 : g2 ≠ g6 := by have := blk_lt b2; omega
                have n6_b3 : g3 ≠ g6 := by have := blk_lt b3; omega
                have n6_b7 : g7 ≠ g6 := by have := blk_lt b7; omega
                clear hh0
                replace b2 := blk_below b2 l6
                replace b3 := blk_below b3 l6
                replace b7 := blk_below b7 l6
                replace L := below_step L l6
                refine E.GH.one (i := 12) (by kernel_rfl) rfl ?_
                refine E.GO.sn rfl rfl (E.ST.storeS (off := 0) (cells := [.slice a0 x.f0.length k0, .int .i64 x.f1, .int .i64 x.f2, .int .i64 x.f3, .int .i64 x.f4, .int .i64 x.f5]) rfl rfl rfl b6 rfl info40s (cells6_one _ _ _ _ _ _ _ _) rfl fun wS6_12 c6 lS6_12 => ⟨E.gb_own hh h6_hh lS6_12, ?_⟩)
                replace hh := E.gb_own hh h6_hh lS6_12
                replace b2 := blk_grown b2 lS6_12 (E.nes (by first | assumption | exact Ne.symm (by assumption)))
                replace b3 := blk_grown b3 lS6_12 (E.nes (by first | assumption | exact Ne.symm (by assumption)))
                replace b7 := blk_grown b7 lS6_12 (E.nes (by first | assumption | exact Ne.symm (by assumption)))
                replace L := E.below_own L h6_L lS6_12
                replace b6 := c6
                clear c6
                refine E.GH.one (i := 13) (by kernel_rfl) rfl ?_
                refine E.GO.sn rfl rfl (E.ST.storeS (off := 0) (cells := [.slice a1 y.f0.length k1, .int .i64 y.f1, .int .i64 y.f2, .int .i64 y.f3, .int .i64 y.f4, .int .i64 y.f5]) rfl rfl rfl b7 rfl info40s (cells6_one _ _ _ _ _ _ _ _) rfl fun wS6_13 c7 lS6_13 => ⟨E.gb_own hh h7_hh lS6_13, ?_⟩)
                replace hh := E.gb_own hh h7_hh lS6_13
                replace b2 := blk_grown b2 lS6_13 (E.nes (by first | assumption | exact Ne.symm (by assumption)))
                replace b3 := blk_grown b3 lS6_13 (E.nes (by first | assumption | exact Ne.symm (by assumption)))
                replace b6 := blk_grown b6 lS6_13 (E.nes (by first | assumption | exact Ne.symm (by assumption)))
                replace L := E.below_own L h7_L lS6_13
                replace b7 := c7
                clear c7
                refine E.GH.done (by kernel_rfl) ?_
                exact E.QG.meet2 _ _ (E.subc rfl (E.subc rfl (E.subc rfl (E.subc rfl (E.subc rfl (E.subn)))))) ⟨b2, b3, b6, b7, L⟩
            intro g6 g7 w6 ⟨b2, b3, b6, b7, L⟩
            refine E.QG.code ?_
            refine E.CG.seq ?_
            refine E.CG.list ?_
            refine E.GL.run rfl rfl rfl (E.Runs.fieldAddr rfl rfl hu40 rfl (by assumption) rfl) ?_
            refine E.GL.run rfl rfl rfl (E.Runs.load1 rfl rfl hu22 rfl (by first | assumption | exact E.blkc (by assumption) rfl | exact pw_cell_below L (by assumption))) ?_
            refine E.GL.run rfl rfl rfl (E.Runs.fieldAddr rfl rfl hu40 rfl (by assumption) rfl) ?_
            refine E.GL.run rfl rfl rfl (E.Runs.load1 rfl rfl hu22 rfl (by first | assumption | exact E.blkc (by assumption) rfl | exact pw_cell_below L (by assumption))) ?_
            by_cases h60 : x.f0 = y.f0
            · refine E.GL.st rfl rfl rfl (E.ST.call rfl ent26 (E.evc rfl (E.evc rfl E.evn)) ((same_calls x.f0 y.f0 a0 a1 k0 k1 _ true (iff_of_true rfl h60) (Kd.C_below hx0 L) (Kd.C_below hy0 L) (hs.s x (List.mem_of_getElem? hx))).mono ?_))
              rintro e w60 ⟨rfl, l60⟩
              refine ⟨_, rfl, ?_⟩
              replace b2 := blk_below b2 l60
              replace b3 := blk_below b3 l60
              replace b6 := blk_below b6 l60
              replace b7 := blk_below b7 l60
              replace L := below_step L l60
              refine E.GL.run rfl rfl rfl (E.Runs.not rfl rfl) ?_
              refine E.GL.run rfl rfl rfl (E.Runs.move rfl rfl) ?_
              refine E.GL.run rfl rfl rfl (E.Runs.fieldAddr rfl rfl hu40 rfl (by assumption) rfl) ?_
              refine E.GL.run rfl rfl rfl (E.Runs.load rfl rfl hu3 (by first | assumption | exact E.blkc (by assumption) rfl | exact pw_cell_below L (by assumption))) ?_
              refine E.GL.run rfl rfl rfl (E.Runs.fieldAddr rfl rfl hu40 rfl (by assumption) rfl) ?_
              refine E.GL.run rfl rfl rfl (E.Runs.load rfl rfl hu3 (by first | assumption | exact E.blkc (by assumption) rfl | exact pw_cell_below L (by assumption))) ?_
              refine E.GL.cmpn rfl rfl rfl (fun _ h => (E.Runs.neq rfl rfl rfl h)) (fun h67 => ?_) (fun h67 => ?_)
              · refine E.GL.run rfl rfl rfl (E.Runs.pick_f rfl rfl rfl) ?_
                refine E.GL.run rfl rfl rfl (E.Runs.move rfl rfl) ?_
                refine E.GL.skip rfl rfl rfl ?_
                refine E.GL.skip rfl rfl rfl ?_
                refine E.GL.skip rfl rfl rfl ?_
                refine E.GL.skip rfl rfl rfl ?_
                refine E.GL.skip rfl rfl rfl ?_
                refine E.GL.run rfl rfl rfl (E.Runs.pick_t rfl rfl rfl) ?_
                refine E.GL.run rfl rfl rfl (E.Runs.move rfl rfl) ?_
                refine E.GL.skip rfl rfl rfl ?_
                refine E.GL.skip rfl rfl rfl ?_
                refine E.GL.skip rfl rfl rfl ?_
                refine E.GL.skip rfl rfl rfl ?_
                refine E.GL.skip rfl rfl rfl ?_
                refine E.GL.run rfl rfl rfl (E.Runs.pick_t rfl rfl rfl) ?_
                refine E.GL.run rfl rfl rfl (E.Runs.move rfl rfl) ?_
                refine E.GL.skip rfl rfl rfl ?_
                refine E.GL.skip rfl rfl rfl ?_
                refine E.GL.skip rfl rfl rfl ?_
                refine E.GL.skip rfl rfl rfl ?_
                refine E.GL.skip rfl rfl rfl ?_
                refine E.GL.run rfl rfl rfl (E.Runs.pick_t rfl rfl rfl) ?_
                refine E.GL.run rfl rfl rfl (E.Runs.move rfl rfl) ?_
                refine E.GL.skip rfl rfl rfl ?_
                refine E.GL.skip rfl rfl rfl ?_
                refine E.GL.skip rfl rfl rfl ?_
                refine E.GL.skip rfl rfl rfl ?_
                refine E.GL.skip rfl rfl rfl ?_
                refine E.GL.run rfl rfl rfl (E.Runs.pick_t rfl rfl rfl) ?_
                refine E.GL.done ?_
                refine E.QG.code ?_
                refine E.CG.cond_t rfl ?_
                refine E.CG.seq ?_
                refine E.CG.list ?_
                refine E.GL.run rfl rfl rfl (E.Runs.assign rfl rfl) ?_
                refine E.GL.done ?_
                refine E.QG.code ?_
                refine E.CG.ret ?_
                refine E.QG.block_ret ?_
                refine E.QG.pass_ret ?_
                refine E.QG.pass_ret ?_
                refine E.QG.block_ret ?_
                refine E.QG.pass_ret ?_
                exact E.QG.result rfl rfl ⟨by rw [bool_no hr (fun k => h67 (by subst k; rw [hx] at hy; cases hy; rfl))], L⟩
              · refine E.GL.run rfl rfl rfl (E.Runs.pick_f rfl rfl rfl) ?_
                refine E.GL.run rfl rfl rfl (E.Runs.move rfl rfl) ?_
                refine E.GL.run rfl rfl rfl (E.Runs.fieldAddr rfl rfl hu40 rfl (by assumption) rfl) ?_
                refine E.GL.run rfl rfl rfl (E.Runs.load rfl rfl hu3 (by first | assumption | exact E.blkc (by assumption) rfl | exact pw_cell_below L (by assumption))) ?_
                refine E.GL.run rfl rfl rfl (E.Runs.fieldAddr rfl rfl hu40 rfl (by assumption) rfl) ?_
                refine E.GL.run rfl rfl rfl (E.Runs.load rfl rfl hu3 (by first | assumption | exact E.blkc (by assumption) rfl | exact pw_cell_below L (by assumption))) ?_
                refine E.GL.cmpn rfl rfl rfl (fun _ h => (E.Runs.neq rfl rfl rfl h)) (fun h74 => ?_) (fun h74 => ?_)
                · refine E.GL.run rfl rfl rfl (E.Runs.pick_f rfl rfl rfl) ?_
                  refine E.GL.run rfl rfl rfl (E.Runs.move rfl rfl) ?_
                  refine E.GL.skip rfl rfl rfl ?_
                  refine E.GL.skip rfl rfl rfl ?_
                  refine E.GL.skip rfl rfl rfl ?_
                  refine E.GL.skip rfl rfl rfl ?_
                  refine E.GL.skip rfl rfl rfl ?_
                  refine E.GL.run rfl rfl rfl (E.Runs.pick_t rfl rfl rfl) ?_
                  refine E.GL.run rfl rfl rfl (E.Runs.move rfl rfl) ?_
                  refine E.GL.skip rfl rfl rfl ?_
                  refine E.GL.skip rfl rfl rfl ?_
                  refine E.GL.skip rfl rfl rfl ?_
                  refine E.GL.skip rfl rfl rfl ?_
                  refine E.GL.skip rfl rfl rfl ?_
                  refine E.GL.run rfl rfl rfl (E.Runs.pick_t rfl rfl rfl) ?_
                  refine E.GL.run rfl rfl rfl (E.Runs.move rfl rfl) ?_
                  refine E.GL.skip rfl rfl rfl ?_
                  refine E.GL.skip rfl rfl rfl ?_
                  refine E.GL.skip rfl rfl rfl ?_
                  refine E.GL.skip rfl rfl rfl ?_
                  refine E.GL.skip rfl rfl rfl ?_
                  refine E.GL.run rfl rfl rfl (E.Runs.pick_t rfl rfl rfl) ?_
                  refine E.GL.done ?_
                  refine E.QG.code ?_
                  refine E.CG.cond_t rfl ?_
                  refine E.CG.seq ?_
                  refine E.CG.list ?_
                  refine E.GL.run rfl rfl rfl (E.Runs.assign rfl rfl) ?_
                  refine E.GL.done ?_
                  refine E.QG.code ?_
                  refine E.CG.ret ?_
                  refine E.QG.block_ret ?_
                  refine E.QG.pass_ret ?_
                  refine E.QG.pass_ret ?_
                  refine E.QG.block_ret ?_
                  refine E.QG.pass_ret ?_
                  exact E.QG.result rfl rfl ⟨by rw [bool_no hr (fun k => h74 (by subst k; rw [hx] at hy; cases hy; rfl))], L⟩
                · refine E.GL.run rfl rfl rfl (E.Runs.pick_f rfl rfl rfl) ?_
                  refine E.GL.run rfl rfl rfl (E.Runs.move rfl rfl) ?_
                  refine E.GL.run rfl rfl rfl (E.Runs.fieldAddr rfl rfl hu40 rfl (by assumption) rfl) ?_
                  refine E.GL.run rfl rfl rfl (E.Runs.load rfl rfl hu3 (by first | assumption | exact E.blkc (by assumption) rfl | exact pw_cell_below L (by assumption))) ?_
                  refine E.GL.run rfl rfl rfl (E.Runs.fieldAddr rfl rfl hu40 rfl (by assumption) rfl) ?_
                  refine E.GL.run rfl rfl rfl (E.Runs.load rfl rfl hu3 (by first | assumption | exact E.blkc (by assumption) rfl | exact pw_cell_below L (by assumption))) ?_
                  refine E.GL.cmpn rfl rfl rfl (fun _ h => (E.Runs.neq rfl rfl rfl h)) (fun h81 => ?_) (fun h81 => ?_)
                  · refine E.GL.run rfl rfl rfl (E.Runs.pick_f rfl rfl rfl) ?_
                    refine E.GL.run rfl rfl rfl (E.Runs.move rfl rfl) ?_
                    refine E.GL.skip rfl rfl rfl ?_
                    refine E.GL.skip rfl rfl rfl ?_
                    refine E.GL.skip rfl rfl rfl ?_
                    refine E.GL.skip rfl rfl rfl ?_
                    refine E.GL.skip rfl rfl rfl ?_
                    refine E.GL.run rfl rfl rfl (E.Runs.pick_t rfl rfl rfl) ?_
                    refine E.GL.run rfl rfl rfl (E.Runs.move rfl rfl) ?_
                    refine E.GL.skip rfl rfl rfl ?_
                    refine E.GL.skip rfl rfl rfl ?_
                    refine E.GL.skip rfl rfl rfl ?_
                    refine E.GL.skip rfl rfl rfl ?_
                    refine E.GL.skip rfl rfl rfl ?_
                    refine E.GL.run rfl rfl rfl (E.Runs.pick_t rfl rfl rfl) ?_
                    refine E.GL.done ?_
                    refine E.QG.code ?_
                    refine E.CG.cond_t rfl ?_
                    refine E.CG.seq ?_
                    refine E.CG.list ?_
                    refine E.GL.run rfl rfl rfl (E.Runs.assign rfl rfl) ?_
                    refine E.GL.done ?_
                    refine E.QG.code ?_
                    refine E.CG.ret ?_
                    refine E.QG.block_ret ?_
                    refine E.QG.pass_ret ?_
                    refine E.QG.pass_ret ?_
                    refine E.QG.block_ret ?_
                    refine E.QG.pass_ret ?_
                    exact E.QG.result rfl rfl ⟨by rw [bool_no hr (fun k => h81 (by subst k; rw [hx] at hy; cases hy; rfl))], L⟩
                  · refine E.GL.run rfl rfl rfl (E.Runs.pick_f rfl rfl rfl) ?_
                    refine E.GL.run rfl rfl rfl (E.Runs.move rfl rfl) ?_
                    refine E.GL.run rfl rfl rfl (E.Runs.fieldAddr rfl rfl hu40 rfl (by assumption) rfl) ?_
                    refine E.GL.run rfl rfl rfl (E.Runs.load rfl rfl hu3 (by first | assumption | exact E.blkc (by assumption) rfl | exact pw_cell_below L (by assumption))) ?_
                    refine E.GL.run rfl rfl rfl (E.Runs.fieldAddr rfl rfl hu40 rfl (by assumption) rfl) ?_
                    refine E.GL.run rfl rfl rfl (E.Runs.load rfl rfl hu3 (by first | assumption | exact E.blkc (by assumption) rfl | exact pw_cell_below L (by assumption))) ?_
                    refine E.GL.cmpn rfl rfl rfl (fun _ h => (E.Runs.neq rfl rfl rfl h)) (fun h88 => ?_) (fun h88 => ?_)
                    · refine E.GL.run rfl rfl rfl (E.Runs.pick_f rfl rfl rfl) ?_
                      refine E.GL.run rfl rfl rfl (E.Runs.move rfl rfl) ?_
                      refine E.GL.skip rfl rfl rfl ?_
                      refine E.GL.skip rfl rfl rfl ?_
                      refine E.GL.skip rfl rfl rfl ?_
                      refine E.GL.skip rfl rfl rfl ?_
                      refine E.GL.skip rfl rfl rfl ?_
                      refine E.GL.run rfl rfl rfl (E.Runs.pick_t rfl rfl rfl) ?_
                      refine E.GL.done ?_
                      refine E.QG.code ?_
                      refine E.CG.cond_t rfl ?_
                      refine E.CG.seq ?_
                      refine E.CG.list ?_
                      refine E.GL.run rfl rfl rfl (E.Runs.assign rfl rfl) ?_
                      refine E.GL.done ?_
                      refine E.QG.code ?_
                      refine E.CG.ret ?_
                      refine E.QG.block_ret ?_
                      refine E.QG.pass_ret ?_
                      refine E.QG.pass_ret ?_
                      refine E.QG.block_ret ?_
                      refine E.QG.pass_ret ?_
                      exact E.QG.result rfl rfl ⟨by rw [bool_no hr (fun k => h88 (by subst k; rw [hx] at hy; cases hy; rfl))], L⟩
                    · refine E.GL.run rfl rfl rfl (E.Runs.pick_f rfl rfl rfl) ?_
                      refine E.GL.run rfl rfl rfl (E.Runs.move rfl rfl) ?_
                      refine E.GL.run rfl rfl rfl (E.Runs.fieldAddr rfl rfl hu40 rfl (by assumption) rfl) ?_
                      refine E.GL.run rfl rfl rfl (E.Runs.load rfl rfl hu3 (by first | assumption | exact E.blkc (by assumption) rfl | exact pw_cell_below L (by assumption))) ?_
                      refine E.GL.run rfl rfl rfl (E.Runs.fieldAddr rfl rfl hu40 rfl (by assumption) rfl) ?_
                      refine E.GL.run rfl rfl rfl (E.Runs.load rfl rfl hu3 (by first | assumption | exact E.blkc (by assumption) rfl | exact pw_cell_below L (by assumption))) ?_
                      refine E.GL.cmpn rfl rfl rfl (fun _ h => (E.Runs.neq rfl rfl rfl h)) (fun h95 => ?_) (fun h95 => ?_)
                      · refine E.GL.run rfl rfl rfl (E.Runs.pick_f rfl rfl rfl) ?_
                        refine E.GL.done ?_
                        refine E.QG.code ?_
                        refine E.CG.cond_t rfl ?_
                        refine E.CG.seq ?_
                        refine E.CG.list ?_
                        refine E.GL.run rfl rfl rfl (E.Runs.assign rfl rfl) ?_
                        refine E.GL.done ?_
                        refine E.QG.code ?_
                        refine E.CG.ret ?_
                        refine E.QG.block_ret ?_
                        refine E.QG.pass_ret ?_
                        refine E.QG.pass_ret ?_
                        refine E.QG.block_ret ?_
                        refine E.QG.pass_ret ?_
                        exact E.QG.result rfl rfl ⟨by rw [bool_no hr (fun k => h95 (by subst k; rw [hx] at hy; cases hy; rfl))], L⟩
                      · refine E.GL.run rfl rfl rfl (E.Runs.pick_f rfl rfl rfl) ?_
                        refine E.GL.done ?_
                        refine E.QG.code ?_
                        refine E.CG.cond_f rfl ?_
                        refine E.CG.skip ?_
                        refine E.QG.block_normal ?_
                        refine E.QG.code ?_
                        refine E.CG.list ?_
                        refine E.GL.run rfl rfl rfl (E.Runs.move rfl rfl) ?_
                        refine E.GL.run rfl rfl rfl (E.Runs.add rfl rfl rfl (IntWalk.i64_in _ (by omega))) ?_
                        refine E.GL.run rfl rfl rfl (E.Runs.assign rfl rfl) ?_
                        refine E.GL.done ?_
                        exact E.QG.round (i + 1) (E.subc rfl (E.subc rfl (E.subc rfl E.subn))) ⟨by omega, fun j hj => (Nat.lt_or_ge j i).elim (hk j) (fun q => (show j = i by omega) ▸ (by rw [hx, hy, S40.eq h60 h67 h74 h81 h88 h95])), b2, b3, L⟩ (by omega)
            · refine E.GL.st rfl rfl rfl (E.ST.call rfl ent26 (E.evc rfl (E.evc rfl E.evn)) ((same_calls x.f0 y.f0 a0 a1 k0 k1 _ false (iff_of_false Bool.false_ne_true h60) (Kd.C_below hx0 L) (Kd.C_below hy0 L) (hs.s x (List.mem_of_getElem? hx))).mono ?_))
              rintro e w60 ⟨rfl, l60⟩
              refine ⟨_, rfl, ?_⟩
              replace b2 := blk_below b2 l60
              replace b3 := blk_below b3 l60
              replace b6 := blk_below b6 l60
              replace b7 := blk_below b7 l60
              replace L := below_step L l60
              refine E.GL.run rfl rfl rfl (E.Runs.not rfl rfl) ?_
              refine E.GL.run rfl rfl rfl (E.Runs.move rfl rfl) ?_
              refine E.GL.skip rfl rfl rfl ?_
              refine E.GL.skip rfl rfl rfl ?_
              refine E.GL.skip rfl rfl rfl ?_
              refine E.GL.skip rfl rfl rfl ?_
              refine E.GL.skip rfl rfl rfl ?_
              refine E.GL.run rfl rfl rfl (E.Runs.pick_t rfl rfl rfl) ?_
              refine E.GL.run rfl rfl rfl (E.Runs.move rfl rfl) ?_
              refine E.GL.skip rfl rfl rfl ?_
              refine E.GL.skip rfl rfl rfl ?_
              refine E.GL.skip rfl rfl rfl ?_
              refine E.GL.skip rfl rfl rfl ?_
              refine E.GL.skip rfl rfl rfl ?_
              refine E.GL.run rfl rfl rfl (E.Runs.pick_t rfl rfl rfl) ?_
              refine E.GL.run rfl rfl rfl (E.Runs.move rfl rfl) ?_
              refine E.GL.skip rfl rfl rfl ?_
              refine E.GL.skip rfl rfl rfl ?_
              refine E.GL.skip rfl rfl rfl ?_
              refine E.GL.skip rfl rfl rfl ?_
              refine E.GL.skip rfl rfl rfl ?_
              refine E.GL.run rfl rfl rfl (E.Runs.pick_t rfl rfl rfl) ?_
              refine E.GL.run rfl rfl rfl (E.Runs.move rfl rfl) ?_
              refine E.GL.skip rfl rfl rfl ?_
              refine E.GL.skip rfl rfl rfl ?_
              refine E.GL.skip rfl rfl rfl ?_
              refine E.GL.skip rfl rfl rfl ?_
              refine E.GL.skip rfl rfl rfl ?_
              refine E.GL.run rfl rfl rfl (E.Runs.pick_t rfl rfl rfl) ?_
              refine E.GL.run rfl rfl rfl (E.Runs.move rfl rfl) ?_
              refine E.GL.skip rfl rfl rfl ?_
              refine E.GL.skip rfl rfl rfl ?_
              refine E.GL.skip rfl rfl rfl ?_
              refine E.GL.skip rfl rfl rfl ?_
              refine E.GL.skip rfl rfl rfl ?_
              refine E.GL.run rfl rfl rfl (E.Runs.pick_t rfl rfl rfl) ?_
              refine E.GL.done ?_
              refine E.QG.code ?_
              refine E.CG.cond_t rfl ?_
              refine E.CG.seq ?_
              refine E.CG.list ?_
              refine E.GL.run rfl rfl rfl (E.Runs.assign rfl rfl) ?_
              refine E.GL.done ?_
              refine E.QG.code ?_
              refine E.CG.ret ?_
              refine E.QG.block_ret ?_
              refine E.QG.pass_ret ?_
              refine E.QG.pass_ret ?_
              refine E.QG.block_ret ?_
              refine E.QG.pass_ret ?_
              exact E.QG.result rfl rfl ⟨by rw [bool_no hr (fun k => h60 (by subst k; rw [hx] at hy; cases hy; rfl))], L⟩
          · refine E.GL.done ?_
            refine E.QG.code ?_
            refine E.CG.cond_f rfl ?_
            refine E.CG.exit ?_
            refine E.QG.pass_exit ?_
            refine E.QG.pass_exit ?_
            refine E.QG.block_here ?_
            refine E.QG.code ?_
            refine E.CG.seq ?_
            refine E.CG.list ?_
            refine E.GL.run rfl rfl rfl (E.Runs.assign rfl rfl) ?_
            refine E.GL.done ?_
            refine E.QG.code ?_
            refine E.CG.ret ?_
            exact E.QG.result rfl rfl ⟨by rw [hr.mpr ((Ev.eq h12 h19 h27 (List.ext_getElem? fun j => (Nat.lt_or_ge j i).elim (hk j) (fun q => by rw [List.getElem?_eq_none (by omega), List.getElem?_eq_none (by omega)]))))], L⟩
      · refine E.GL.st rfl rfl rfl (E.ST.call rfl ent26 (E.evc rfl (E.evc rfl E.evn)) ((same_calls V.ts U.ts m.C u.C m.c u.c _ false (iff_of_false Bool.false_ne_true h27) (hV.below L).ts (hU.below L).ts hs.t).mono ?_))
        rintro e w27 ⟨rfl, l27⟩
        refine ⟨_, rfl, ?_⟩
        replace b2 := blk_below b2 l27
        replace b3 := blk_below b3 l27
        replace L := below_step L l27
        refine E.GL.run rfl rfl rfl (E.Runs.not rfl rfl) ?_
        refine E.GL.run rfl rfl rfl (E.Runs.pick_f rfl rfl rfl) ?_
        refine E.GL.run rfl rfl rfl (E.Runs.move rfl rfl) ?_
        refine E.GL.skip rfl rfl rfl ?_
        refine E.GL.skip rfl rfl rfl ?_
        refine E.GL.skip rfl rfl rfl ?_
        refine E.GL.skip rfl rfl rfl ?_
        refine E.GL.skip rfl rfl rfl ?_
        refine E.GL.skip rfl rfl rfl ?_
        refine E.GL.skip rfl rfl rfl ?_
        refine E.GL.run rfl rfl rfl (E.Runs.pick_t rfl rfl rfl) ?_
        refine E.GL.done ?_
        refine E.QG.code ?_
        refine E.CG.cond_t rfl ?_
        refine E.CG.seq ?_
        refine E.CG.list ?_
        refine E.GL.run rfl rfl rfl (E.Runs.assign rfl rfl) ?_
        refine E.GL.done ?_
        refine E.QG.code ?_
        refine E.CG.ret ?_
        refine E.QG.pass_ret ?_
        exact E.QG.result rfl rfl ⟨by rw [bool_no hr (fun k => h27 (by rw [k]))], L⟩
    · refine E.GL.st rfl rfl rfl (E.ST.call rfl ent26 (E.evc rfl (E.evc rfl E.evn)) ((same_calls V.qs U.qs m.B u.B m.b u.b _ false (iff_of_false Bool.false_ne_true h19) (hV.below L).qs (hU.below L).qs hs.q).mono ?_))
      rintro e w19 ⟨rfl, l19⟩
      refine ⟨_, rfl, ?_⟩
      replace b2 := blk_below b2 l19
      replace b3 := blk_below b3 l19
      replace L := below_step L l19
      refine E.GL.run rfl rfl rfl (E.Runs.not rfl rfl) ?_
      refine E.GL.run rfl rfl rfl (E.Runs.pick_f rfl rfl rfl) ?_
      refine E.GL.run rfl rfl rfl (E.Runs.move rfl rfl) ?_
      refine E.GL.skip rfl rfl rfl ?_
      refine E.GL.skip rfl rfl rfl ?_
      refine E.GL.skip rfl rfl rfl ?_
      refine E.GL.skip rfl rfl rfl ?_
      refine E.GL.skip rfl rfl rfl ?_
      refine E.GL.skip rfl rfl rfl ?_
      refine E.GL.run rfl rfl rfl (E.Runs.pick_t rfl rfl rfl) ?_
      refine E.GL.run rfl rfl rfl (E.Runs.move rfl rfl) ?_
      refine E.GL.skip rfl rfl rfl ?_
      refine E.GL.skip rfl rfl rfl ?_
      refine E.GL.skip rfl rfl rfl ?_
      refine E.GL.skip rfl rfl rfl ?_
      refine E.GL.skip rfl rfl rfl ?_
      refine E.GL.skip rfl rfl rfl ?_
      refine E.GL.skip rfl rfl rfl ?_
      refine E.GL.run rfl rfl rfl (E.Runs.pick_t rfl rfl rfl) ?_
      refine E.GL.done ?_
      refine E.QG.code ?_
      refine E.CG.cond_t rfl ?_
      refine E.CG.seq ?_
      refine E.CG.list ?_
      refine E.GL.run rfl rfl rfl (E.Runs.assign rfl rfl) ?_
      refine E.GL.done ?_
      refine E.QG.code ?_
      refine E.CG.ret ?_
      refine E.QG.pass_ret ?_
      exact E.QG.result rfl rfl ⟨by rw [bool_no hr (fun k => h19 (by rw [k]))], L⟩
  · refine E.GL.st rfl rfl rfl (E.ST.call rfl ent26 (E.evc rfl (E.evc rfl E.evn)) ((same_calls V.ps U.ps m.A u.A m.a u.a _ false (iff_of_false Bool.false_ne_true h12) (hV.below L).ps (hU.below L).ps hs.p).mono ?_))
    rintro e w12 ⟨rfl, l12⟩
    refine ⟨_, rfl, ?_⟩
    replace b2 := blk_below b2 l12
    replace b3 := blk_below b3 l12
    replace L := below_step L l12
    refine E.GL.run rfl rfl rfl (E.Runs.not rfl rfl) ?_
    refine E.GL.run rfl rfl rfl (E.Runs.move rfl rfl) ?_
    refine E.GL.skip rfl rfl rfl ?_
    refine E.GL.skip rfl rfl rfl ?_
    refine E.GL.skip rfl rfl rfl ?_
    refine E.GL.skip rfl rfl rfl ?_
    refine E.GL.skip rfl rfl rfl ?_
    refine E.GL.skip rfl rfl rfl ?_
    refine E.GL.run rfl rfl rfl (E.Runs.pick_t rfl rfl rfl) ?_
    refine E.GL.run rfl rfl rfl (E.Runs.move rfl rfl) ?_
    refine E.GL.skip rfl rfl rfl ?_
    refine E.GL.skip rfl rfl rfl ?_
    refine E.GL.skip rfl rfl rfl ?_
    refine E.GL.skip rfl rfl rfl ?_
    refine E.GL.skip rfl rfl rfl ?_
    refine E.GL.skip rfl rfl rfl ?_
    refine E.GL.run rfl rfl rfl (E.Runs.pick_t rfl rfl rfl) ?_
    refine E.GL.run rfl rfl rfl (E.Runs.move rfl rfl) ?_
    refine E.GL.skip rfl rfl rfl ?_
    refine E.GL.skip rfl rfl rfl ?_
    refine E.GL.skip rfl rfl rfl ?_
    refine E.GL.skip rfl rfl rfl ?_
    refine E.GL.skip rfl rfl rfl ?_
    refine E.GL.skip rfl rfl rfl ?_
    refine E.GL.skip rfl rfl rfl ?_
    refine E.GL.run rfl rfl rfl (E.Runs.pick_t rfl rfl rfl) ?_
    refine E.GL.done ?_
    refine E.QG.code ?_
    refine E.CG.cond_t rfl ?_
    refine E.CG.seq ?_
    refine E.CG.list ?_
    refine E.GL.run rfl rfl rfl (E.Runs.assign rfl rfl) ?_
    refine E.GL.done ?_
    refine E.QG.code ?_
    refine E.CG.ret ?_
    refine E.QG.pass_ret ?_
    exact E.QG.result rfl rfl ⟨by rw [bool_no hr (fun k => h12 (by rw [k]))], L⟩

end Go.Proofs.Ytiplichdhcmjdaa.T
namespace Go.Proofs.Ytiplichdhcmjdaa.T
open Go.RowKit Go.Proofs.YtiplichdhcmjdaaW.PrintWords Go.Proofs.YtiplichdhcmjdaaW.PrintMore
open Go.Proofs.Ytiplichdhcmjdaa.P
set_option linter.unusedVariables false
set_option linter.unusedSimpArgs false

theorem Cs.leave {w0 wS w w' : World} {V : Ev} {m : Ea} {c : S40} {a0 : Option Addr} {k0 g2 g3 g5 g6 : Nat} {v v' : Value} {xs ys : List S69} (h : Cs w0 wS w V m c a0 k0 g2 g3 g5 g6 v xs) (k : Cs w0 w w' V m c a0 k0 g2 g3 g5 g6 v' ys) : Cs w0 wS w' V m c a0 k0 g2 g3 g5 g6 v' ys :=
  ⟨k.b2, k.b3, k.b5, k.b6, k.row, k.h5, k.bel, h.sz0, Nat.le_trans h.szS k.szS, h.calm.trans k.calm⟩
/-- append to the row that stands in a cell. -/
theorem Cs.appended {w0 wS w w1 w2 : World} {V : Ev} {m : Ea} {c : S40} {a0 : Option Addr} {k0 g2 g3 g5 g6 : Nat} {v v' : Value} {xs ys : List S69} (h : Cs w0 wS w V m c a0 k0 g2 g3 g5 g6 v xs) (r : Kd.R k69 69 w1 w0.heap.size (fun _ => True) v' ys) (k : Below w0.heap.size w0 w1) (hg : w.grownBy w1 v.ownBlock) (hs : w1.grownBy w2 (some g5)) (hb : w2.heap[g5]? = some (.cells #[v'] 72 (0, 0))) : Cs w0 wS w2 V m c a0 k0 g2 g3 g5 g6 v' ys := by
  have e2 := blk_grown h.b2 hg (Kd.R_ne h.row h.b2 (by decide))
  have e3 := blk_grown h.b3 hg (Kd.R_ne h.row h.b3 (by decide))
  have e5 := blk_grown h.b5 hg (Kd.R_ne h.row h.b5 (by decide))
  have e6 := blk_grown h.b6 hg (Kd.R_ne h.row h.b6 (by decide))
  refine ⟨blk_grown e2 hs (E.nes (blk_ne e2 e5 (by decide))), blk_grown e3 hs (E.nes (blk_ne e3 e5 (by decide))), hb, blk_grown e6 hs (E.nes (blk_ne e6 e5 (by decide))), Kd.R_grown1 r rfl hs (Kd.R_ne r e5 (by decide)), h.h5, E.below_own k h.h5 hs, h.sz0, Nat.le_trans h.szS (Nat.le_trans hg.size hs.size), fun i cs' q f hi q1 q2 => ?_⟩
  have h1 := h.calm i cs' q f hi q1 q2
  have h2 : w1.heap[i]? = some (.cells cs' q f) := (hg.block i (Array.getElem?_eq_some_iff.1 h1).1 (fun e => by
    obtain ⟨_, inner, ho, _⟩ := h.row
    obtain ⟨cells, hc⟩ := own_typed ho i e.symm
    rw [h1] at hc
    cases hc
    exact q1 rfl)).trans h1
  exact (hs.block i (Array.getElem?_eq_some_iff.1 h2).1 (fun e => by
    injection e with e
    subst e
    rw [h2] at e5
    cases e5
    exact q2 rfl)).trans h2
def pfx (V : Ev) (c : S40) (n k s : Nat) (b : Bl) (left i : Nat) : List S69 := (List.range i).flatMap (fun (j : Nat) => chR V c n k (b.set s j) (left - j))
theorem pfx_next (V : Ev) (c : S40) (n k s : Nat) (b : Bl) (left i : Nat) : pfx V c n k s b left (i + 1) = pfx V c n k s b left i ++ chR V c n k (b.set s i) (left - i) := by
  unfold pfx
  rw [List.range_succ, List.flatMap_append]
  simp
theorem chR_len (V : Ev) (c : S40) (n : Nat) : ∀ (k : Nat) (b : Bl) (left : Nat), left ≤ 20 → (chR V c n k b left).length ≤ 21 ^ k
  | 0, b, left, _ => by simp [chR]
  | k + 1, b, left, h => by
    rw [chR]
    have : ∀ i, i ≤ 21 → ((List.range i).flatMap (fun (j : Nat) => chR V c n k (b.set (n - 1 - (k + 1)) j) (left - j))).length ≤ i * 21 ^ k := by
      intro i hi
      induction i with
      | zero => simp
      | succ i ih =>
        have h1 := ih (by omega)
        have h2 := chR_len V c n k (b.set (n - 1 - (k + 1)) i) (left - i) (by omega)
        rw [List.range_succ, List.flatMap_append, List.length_append]
        simp only [List.flatMap_cons, List.flatMap_nil, List.append_nil]
        rw [Nat.add_mul, Nat.one_mul]
        omega
    have h1 := this (left + 1) (by omega)
    have h2 : (left + 1) * 21 ^ k ≤ 21 * 21 ^ k := Nat.mul_le_mul_right _ (by omega)
    rw [Nat.pow_succ, Nat.mul_comm (21 ^ k)]
    omega
theorem pfx_len (V : Ev) (c : S40) (n k s : Nat) (b : Bl) {left : Nat} (hl : left ≤ 20) : ∀ i, i ≤ 21 → (pfx V c n k s b left i).length ≤ i * 21 ^ k
  | 0, _ => by simp [pfx]
  | i + 1, hi => by
    have h1 := pfx_len V c n k s b hl i (by omega)
    have h2 := chR_len V c n k (b.set s i) (left - i) (by omega)
    rw [pfx_next, List.length_append, Nat.add_mul, Nat.one_mul]
    omega
theorem set_set (b : Bl) (s : Nat) (x y : Int) : (b.set s x).set s y = b.set s y := by
  unfold Bl.set
  by_cases h0 : s = 0
  · simp [h0]
  · by_cases h1 : s = 1 <;> simp [h0, h1]
theorem small_set {b : Bl} {s : Nat} {x m : Int} (h : SmallB b m) (hs : s < 3) (h0 : 0 ≤ x) (h1 : x ≤ m) : SmallB (b.set s x) m := by
  intro i hi
  by_cases e : i = s
  · subst e; rw [get_set_self b hi]; exact ⟨h0, h1⟩
  · rw [get_set_ne b hs hi e]; exact h i hi
set_option maxRecDepth 100000 in
theorem build69 (b : Bl) (W : World) : (Instr.build 69 #[(0, .agg #[.int .i64 b.f0, .int .i64 b.f1, .int .i64 b.f2])]).run Try.prog W = .ok (.agg #[.int .i64 b.f0, .int .i64 b.f1, .int .i64 b.f2, .int .i64 0]) W := by
  have hu3 := Try.underlying3
  have hu59 := Try.underlying59
  have hu69 := Try.underlying69
  go_simp
set_option maxRecDepth 100000 in
theorem lit72 (x : S69) (W : World) : (Instr.buildSlice 72 1 #[(0, .agg #[.int .i64 x.f0, .int .i64 x.f1, .int .i64 x.f2, .int .i64 x.f3])]).run Try.prog W = .ok (.slice (some ⟨W.heap.size, 0, none⟩) 1 1) (W.alloc (.cells #[.int .i64 x.f0, .int .i64 x.f1, .int .i64 x.f2, .int .i64 x.f3] 69 (0, 0))) := by
  have hu72 := Try.underlying72
  go_simp
theorem info69 : (Try.prog.info? 69).map (fun i => (i.zero, i.size, i.bytes)) = some (some (.agg #[.int .i64 0, .int .i64 0, .int .i64 0, .int .i64 0]), 4, 32) := by kernel_rfl
theorem four_one' (a b c d : Int) : (#[.int .i64 a, .int .i64 b, .int .i64 c, .int .i64 d] : Array Value).all (·.oneCell') = true := by simp [Value.oneCell']
def MoreC (w0 : World) (V : Ev) (m : Ea) (c : S40) (a0 : Option Addr) (k0 g2 g3 g5 g6 k : Nat) : Prop :=
  ∀ (s : Nat) (b : Bl) (left : Nat) (xs : List S69) (v : Value) (w : World), s + k + 1 = V.ps.length → SmallB b 20 → left ≤ 20 → xs.length + 21 ^ k ≤ 1000000 → Cs w0 w w V m c a0 k0 g2 g3 g5 g6 v xs →
    Calls Try.prog 82 #[bv b, .int .i64 s, .int .i64 left, .pointer (some ⟨g2, 0, none⟩), .pointer (some ⟨g3, 0, none⟩), .pointer (some ⟨g5, 0, none⟩), .pointer (some ⟨g6, 0, none⟩)] w fun e w' => e = .returned (.tuple #[]) ∧ ∃ v', Cs w0 w w' V m c a0 k0 g2 g3 g5 g6 v' (xs ++ chR V c V.ps.length k b left)
set_option maxRecDepth 100000 in
set_option maxHeartbeats 8000000 in

theorem more_step (w0 : World) (V : Ev) (m : Ea) (c : S40) (a0 : Option Addr) (k0 g2 g3 g5 g6 k : Nat) (hV : EvM w0 V m) (hx0 : Kd.C kI w0 a0 c.f0.length c.f0) (ok : VOk V) (hc : COk V.ps.length c) (ih : ∀ j, j < k → MoreC w0 V m c a0 k0 g2 g3 g5 g6 j) : MoreC w0 V m c a0 k0 g2 g3 g5 g6 k := by
  intro s b left xs v w hsk hb hl hxl hM
  have hn3 := ok.n3
  have hs3 : s < 3 := by omega
  obtain ⟨q1, q2, q3, q4, q5, q6, q7, q8⟩ := hc
  have hu3 := Try.underlying3
  have hu22 := Try.underlying22
  have hu25 := Try.underlying25
  have hu40 := Try.underlying40
  have hu59 := Try.underlying59
  have hu69 := Try.underlying69
  have hu72 := Try.underlying72
  have hu103 := Try.underlying103
  obtain ⟨z3, o3⟩ := info_some info3s (by decide)
  obtain ⟨z22, o22⟩ := info_some info22s (by decide)
  obtain ⟨z59, o59⟩ := info_some info59s (by decide)
  obtain ⟨z69, o69⟩ := info_some info69s (by decide)
  obtain ⟨z72, o72⟩ := info_some info72s (by decide)
  refine E.enter (N := 67) Try.func82 rfl Try.ntmps82 (args := [bv b, .int .i64 (s : Int), .int .i64 (left : Int), .pointer (some ⟨g2, 0, none⟩), .pointer (some ⟨g3, 0, none⟩), .pointer (some ⟨g5, 0, none⟩), .pointer (some ⟨g6, 0, none⟩)]) (by simp) ?_
  skip
  refine E.CG.seq ?_
  refine E.CG.list ?_
  refine E.GL.st rfl rfl rfl (E.ST.box rfl rfl fun g7 w7 e7 b7 l7 => ?_)
  replace hM := hM.below l7
  have hs7 : w.heap.size ≤ g7 := by rw [e7]; exact Nat.le_refl _
  refine E.GL.done ?_
  refine E.QG.code ?_
  refine E.CG.seq ?_
  refine E.CG.seq ?_
  refine E.CG.list ?_
  refine E.GL.run rfl rfl rfl (E.Runs.move rfl rfl) ?_
  refine E.GL.run rfl rfl rfl (E.Runs.fieldAddr rfl rfl hu25 rfl (by assumption) rfl) ?_
  refine E.GL.run rfl rfl rfl (E.Runs.load1 rfl rfl hu22 rfl (E.blkc hM.b2 rfl)) ?_
  refine E.GL.run rfl rfl rfl (E.Runs.len rfl rfl hu22) ?_
  refine E.GL.run rfl rfl rfl (E.Runs.sub rfl rfl rfl (IntWalk.i64_in _ (by omega))) ?_
  rcases k with _ | k
  · have hsn : s = V.ps.length - 1 := by omega
    have hxl1 : xs.length + 1 ≤ 1000000 := by simpa using hxl
    have hwo := worth_small (small_set hb hs3 (show (0 : Int) ≤ left by omega) (show (left : Int) ≤ 20 by omega)) ok.p
    refine E.GL.run rfl rfl rfl (E.Runs.eql rfl rfl rfl (decide_eq_true (by omega))) ?_
    refine E.GL.done ?_
    refine E.QG.code ?_
    refine E.CG.cond_t rfl ?_
    refine E.CG.seq ?_
    refine E.CG.list ?_
    refine E.GL.run rfl rfl rfl (E.Runs.move rfl rfl) ?_
    refine E.GL.run rfl rfl rfl (E.Runs.move rfl rfl) ?_
    refine E.GL.run rfl rfl rfl (E.Runs.indexArr rfl rfl rfl hu59 z3 o3 (by omega) (by omega) (show _ = (⟨g7, s, none⟩ : Addr) from by rw [Go.Addr.add_mid]; simp)) ?_
    refine E.GL.sn rfl rfl (E.ST.store rfl z3 o3 rfl rfl b7 (show Nat.blt s 3 = true from by simpa [Nat.blt_eq] using hs3) (show _ = _ from b3_set hs3 _) fun wQ c7 lQ => ?_)
    replace hM := hM.grown lQ ⟨⟨_, _, b7, by decide⟩, Kd.R_ne hM.row b7 (by decide), hs7⟩
    replace b7 := c7
    clear c7 lQ
    
    refine E.GL.done ?_
    refine E.QG.code ?_
    refine E.CG.seq ?_
    refine E.CG.list ?_
    refine E.GL.run rfl rfl rfl (E.Runs.loads (cs := [.int .i64 (b.set s left).f0, .int .i64 (b.set s left).f1, .int .i64 (b.set s left).f2]) rfl rfl hu59 rfl info59s (blk_cells b7)) ?_
    refine E.GL.run rfl rfl rfl (E.Runs.build rfl (E.epc rfl E.epn) (build69 _)) ?_
    have hsz10 := hM.szS
    have hlt10 := fun k => Kd.R_lt hM.row k
    refine E.GL.st rfl rfl rfl (E.ST.alloc rfl info69z fun g10 w10 e10 b10 l10 => ?_)
    have n10_b7 : g7 ≠ g10 := by have := blk_lt b7; omega
    replace b7 := blk_below b7 l10
    replace hM := hM.below l10
    have hr10 : some g10 ≠ v.ownBlock := fun h => by have := hlt10 _ h.symm; omega
    have hs10 : w.heap.size ≤ g10 := by omega
    refine E.GL.store_whole rfl rfl rfl rfl rfl b10 rfl info69s (four_one' _ _ _ _) fun wS3_3 c10 lS3_3 => ?_
    replace b7 := blk_grown b7 lS3_3 (E.nes (by first | assumption | exact Ne.symm (by assumption)))
    replace hM := hM.grown lS3_3 (by first | exact ⟨⟨_, _, b10, by decide⟩, hr10, hs10⟩ | exact ⟨⟨_, _, b7, by decide⟩, Kd.R_ne hM.row b7 (by decide), hs7⟩)
    replace b10 := c10
    clear c10
    refine E.GL.done ?_
    refine E.QG.code ?_
    refine E.CG.seq ?_
    refine E.CG.seq ?_
    refine E.CG.heldH (none) (by kernel_rfl) fun v4 lD hh => ?_
    replace b7 := blk_below b7 lD
    replace b10 := blk_below b10 lD
    replace hM := hM.below lD
    clear lD
    have s_b7 := b7
    have s_b10 := b10
    have s_hM := hM
    refine E.GH.take (i := 0) rfl (by kernel_rfl) (by kernel_rfl) (by kernel_rfl) (by intro c a d v w h; first | (cases d <;> exact h) | exact nomatch (show _ ∧ _ from h).1) rfl rfl rfl (fun w' hS => (E.Runs.loads (cs := [.int .i64 (b.set s left).f0, .int .i64 (b.set s left).f1, .int .i64 (b.set s left).f2]) rfl rfl hu59 rfl info59s (blk_cells (blk_grown s_b7 hS E.nen)))) ?_
    refine E.GH.take (i := 1) rfl (by kernel_rfl) (by kernel_rfl) (by kernel_rfl) (by intro c a d v w h; first | (cases d <;> exact h) | exact nomatch (show _ ∧ _ from h).1) rfl rfl rfl (fun w' hS => (E.Runs.fieldAddr rfl rfl hu40 rfl (by assumption) rfl)) ?_
    refine E.GH.take (i := 2) rfl (by kernel_rfl) (by kernel_rfl) (by kernel_rfl) (by intro c a d v w h; first | (cases d <;> exact h) | exact nomatch (show _ ∧ _ from h).1) rfl rfl rfl (fun w' hS => (E.Runs.load1 rfl rfl hu22 rfl (E.keeps hS (E.blkc s_hM.b3 rfl) E.nen))) ?_
    by_cases h26 : (b.set s left) ≠ bl c.f0
    · refine E.GH.one (i := 3) (by kernel_rfl) rfl ?_
      refine E.GO.st rfl rfl rfl (E.ST.call rfl ent44 (E.evc rfl E.evn) ((said_calls c.f0 a0 k0 _ (Kd.C_below hx0 hM.bel) (by omega)).mono ?_))
      rintro e w26 ⟨rfl, l26⟩
      refine ⟨_, rfl, hh.trans (E.gbB l26), ?_⟩
      replace hh := hh.trans (E.gbB l26)
      replace b7 := blk_below b7 l26
      replace b10 := blk_below b10 l26
      replace hM := hM.below l26
      refine E.GH.take (i := 4) rfl (by kernel_rfl) (by kernel_rfl) (by kernel_rfl) (by intro c a d v w h; first | (cases d <;> exact h) | exact nomatch (show _ ∧ _ from h).1) rfl rfl rfl (fun w' hS => (E.Runs.neqv rfl rfl rfl rfl (fun _ _ W => run_eqGuard_agg W _ _ _ _ _ _ Try.eqGuardType59) (bv_equal _ _) (show _ = true from by rw [decide_eq_false h26]; rfl))) ?_
      refine E.GH.done (by kernel_rfl) ?_
      refine E.QG.code ?_
      refine E.CG.cond_t rfl ?_
      refine E.CG.list ?_
      refine E.GL.run rfl rfl rfl (E.Runs.fieldAddr rfl rfl hu69 rfl (by assumption) rfl) ?_
      refine E.GL.run rfl rfl rfl (E.Runs.load rfl rfl hu3 (by first | assumption | exact E.blkc (by assumption) rfl)) ?_
      refine E.GL.run rfl rfl rfl (E.Runs.add rfl rfl rfl (IntWalk.i64_in _ (by omega))) ?_
      refine E.GL.run rfl rfl rfl (E.Runs.fieldAddr rfl rfl hu69 rfl (by assumption) rfl) ?_
      refine E.GL.sn rfl rfl (E.ST.store rfl (by assumption) (by assumption) rfl rfl b10 rfl rfl fun wS5_4 c10 lS5_4 => ?_)
      replace b7 := blk_grown b7 lS5_4 (E.nes (by first | assumption | exact Ne.symm (by assumption)))
      replace hM := hM.grown lS5_4 (by first | exact ⟨⟨_, _, b10, by decide⟩, hr10, hs10⟩ | exact ⟨⟨_, _, b7, by decide⟩, Kd.R_ne hM.row b7 (by decide), hs7⟩)
      replace b10 := c10
      clear c10
      refine E.GL.done ?_
      refine E.QG.code ?_
      refine E.CG.seq ?_
      refine E.CG.seq ?_
      refine E.CG.heldH (none) (by kernel_rfl) fun v6 lD hh => ?_
      replace b7 := blk_below b7 lD
      replace b10 := blk_below b10 lD
      replace hM := hM.below lD
      clear lD
      have s_b7 := b7
      have s_b10 := b10
      have s_hM := hM
      refine E.GH.take (i := 0) rfl (by kernel_rfl) (by kernel_rfl) (by kernel_rfl) (by intro c a d v w h; first | (cases d <;> exact h) | exact nomatch (show _ ∧ _ from h).1) rfl rfl rfl (fun w' hS => (E.Runs.fieldAddr rfl rfl hu40 rfl (by assumption) rfl)) ?_
      refine E.GH.take (i := 1) rfl (by kernel_rfl) (by kernel_rfl) (by kernel_rfl) (by intro c a d v w h; first | (cases d <;> exact h) | exact nomatch (show _ ∧ _ from h).1) rfl rfl rfl (fun w' hS => (E.Runs.load rfl rfl hu3 (E.keeps hS (E.blkc s_hM.b3 rfl) E.nen))) ?_
      refine E.GH.take (i := 2) rfl (by kernel_rfl) (by kernel_rfl) (by kernel_rfl) (by intro c a d v w h; first | (cases d <;> exact h) | exact nomatch (show _ ∧ _ from h).1) rfl rfl rfl (fun w' hS => (E.Runs.fieldAddr rfl rfl hu40 rfl (by assumption) rfl)) ?_
      refine E.GH.take (i := 3) rfl (by kernel_rfl) (by kernel_rfl) (by kernel_rfl) (by intro c a d v w h; first | (cases d <;> exact h) | exact nomatch (show _ ∧ _ from h).1) rfl rfl rfl (fun w' hS => (E.Runs.load rfl rfl hu3 (E.keeps hS (E.blkc s_hM.b3 rfl) E.nen))) ?_
      refine E.GH.take (i := 4) rfl (by kernel_rfl) (by kernel_rfl) (by kernel_rfl) (by intro c a d v w h; first | (cases d <;> exact h) | exact nomatch (show _ ∧ _ from h).1) rfl rfl rfl (fun w' hS => (E.Runs.loads (cs := [.int .i64 (b.set s left).f0, .int .i64 (b.set s left).f1, .int .i64 (b.set s left).f2]) rfl rfl hu59 rfl info59s (blk_cells (blk_grown s_b7 hS E.nen)))) ?_
      refine E.GH.take (i := 5) rfl (by kernel_rfl) (by kernel_rfl) (by kernel_rfl) (by intro c a d v w h; first | (cases d <;> exact h) | exact nomatch (show _ ∧ _ from h).1) rfl rfl rfl (fun w' hS => (E.Runs.fieldAddr rfl rfl hu25 rfl (by assumption) rfl)) ?_
      refine E.GH.take (i := 6) rfl (by kernel_rfl) (by kernel_rfl) (by kernel_rfl) (by intro c a d v w h; first | (cases d <;> exact h) | exact nomatch (show _ ∧ _ from h).1) rfl rfl rfl (fun w' hS => (E.Runs.load1 rfl rfl hu22 rfl (E.keeps hS (E.blkc s_hM.b2 rfl) E.nen))) ?_
      refine E.GH.one (i := 7) (by kernel_rfl) rfl ?_
      refine E.GO.st rfl rfl rfl (E.ST.call rfl ent47 (E.evc rfl (E.evc rfl E.evn)) ((worth_calls (b.set s left) V.ps m.A m.a _ (hV.below hM.bel).ps hn3 (fun x hx => by have := ok.p x hx; omega) ((small_set hb hs3 (by omega) (by omega)).up (by decide))).mono ?_))
      rintro e w39 ⟨rfl, l39⟩
      refine ⟨_, rfl, hh.trans (E.gbB l39), ?_⟩
      replace hh := hh.trans (E.gbB l39)
      replace b7 := blk_below b7 l39
      replace b10 := blk_below b10 l39
      replace hM := hM.below l39
      refine E.GH.take (i := 8) rfl (by kernel_rfl) (by kernel_rfl) (by kernel_rfl) (by intro c a d v w h; first | (cases d <;> exact h) | exact nomatch (show _ ∧ _ from h).1) rfl rfl rfl (fun w' hS => (E.Runs.add rfl rfl rfl (IntWalk.i64_in _ (by omega)))) ?_
      refine E.GH.cmpn (i := 9) rfl (by kernel_rfl) (by kernel_rfl) (by kernel_rfl) (by intro c a d v w h; first | (cases d <;> exact h) | exact nomatch (show _ ∧ _ from h).1) rfl rfl rfl (fun _ h w' hS => (E.Runs.neq rfl rfl rfl h)) (fun h41 => ?_) (fun h41 => ?_)
      · refine E.GH.done (by kernel_rfl) ?_
        refine E.QG.code ?_
        refine E.CG.cond_t rfl ?_
        refine E.CG.list ?_
        refine E.GL.run rfl rfl rfl (E.Runs.fieldAddr rfl rfl hu69 rfl (by assumption) rfl) ?_
        refine E.GL.run rfl rfl rfl (E.Runs.load rfl rfl hu3 (by first | assumption | exact E.blkc (by assumption) rfl)) ?_
        refine E.GL.run rfl rfl rfl (E.Runs.add rfl rfl rfl (IntWalk.i64_in _ (by omega))) ?_
        refine E.GL.run rfl rfl rfl (E.Runs.fieldAddr rfl rfl hu69 rfl (by assumption) rfl) ?_
        refine E.GL.sn rfl rfl (E.ST.store rfl (by assumption) (by assumption) rfl rfl b10 rfl rfl fun wS7_4 c10 lS7_4 => ?_)
        replace b7 := blk_grown b7 lS7_4 (E.nes (by first | assumption | exact Ne.symm (by assumption)))
        replace hM := hM.grown lS7_4 (by first | exact ⟨⟨_, _, b10, by decide⟩, hr10, hs10⟩ | exact ⟨⟨_, _, b7, by decide⟩, Kd.R_ne hM.row b7 (by decide), hs7⟩)
        replace b10 := c10
        clear c10
        refine E.GL.done ?_
        refine E.QG.code ?_
        refine E.CG.seq ?_
        first | (rw [show ((0 : Int) + 1 + 1) = fl V c (b.set s left) from (by unfold fl flK flM due; rw [if_neg h26, if_neg h41] <;> rfl)] at b10) | (rw [show ((0 : Int) + 1) = fl V c (b.set s left) from (by unfold fl flK flM due; first | (rw [if_neg h26, if_pos h41] <;> rfl) | (rw [if_pos (Decidable.not_not.mp h26), if_neg h41] <;> rfl))] at b10) | (rw [show (0 : Int) = fl V c (b.set s left) from (by unfold fl flK flM due; rw [if_pos (Decidable.not_not.mp h26), if_pos h41] <;> rfl)] at b10)
        refine E.CG.list ?_
        refine E.GL.run rfl rfl rfl (E.Runs.load1 rfl rfl hu72 rfl (E.blkc hM.b5 rfl)) ?_
        refine E.GL.run rfl rfl rfl (E.Runs.loads (cs := [.int .i64 (b.set s left).f0, .int .i64 (b.set s left).f1, .int .i64 (b.set s left).f2, .int .i64 (fl V c (b.set s left))]) rfl rfl hu69 rfl info69s (blk_cells b10)) ?_
        refine E.GL.st rfl rfl rfl (E.ST.lit rfl (E.epc rfl E.epn) (lit72 (mkC V c (b.set s left))) ?_)
        have hMa := hM
        refine E.GL.st rfl rfl rfl (E.ST.append k69 w0.heap.size (w0 := w0) (s := .tmp 46) (x := .tmp 48) rfl hu72 info69 rfl (by decide) (by decide) (mkC V c (b.set s left)) rfl rfl (k69_mkM _ _ _ _) (fun _ _ => trivial) hM.row hM.bel (Nat.le_trans hM.sz0 hM.szS) (by omega) fun u49 w49 r49 k49 gr49 => ?_)
        obtain ⟨A49, c49, hu49⟩ := Kd.R_slice r49
        subst hu49
        refine E.GL.sn rfl rfl (E.ST.storeSl (cs := [v]) rfl z72 o72 rfl rfl (blk_grown hMa.b5 gr49 (Kd.R_ne hMa.row hMa.b5 (by decide))) rfl rfl fun wS8 cS8 lS8 => ?_)
        have hM1 := hMa.appended r49 k49 gr49 lS8 cS8
        clear hM hMa
        refine E.GL.done ?_
        refine E.QG.code ?_
        refine E.CG.ret ?_
        refine E.QG.pass_ret ?_
        exact E.QG.result0 rfl ⟨rfl, _, by rw [chR, ← hsn]; exact hM1⟩
      · refine E.GH.done (by kernel_rfl) ?_
        refine E.QG.code ?_
        refine E.CG.cond_f rfl ?_
        refine E.CG.skip ?_
        refine E.QG.code ?_
        refine E.CG.seq ?_
        first | (rw [show ((0 : Int) + 1 + 1) = fl V c (b.set s left) from (by unfold fl flK flM due; rw [if_neg h26, if_neg h41] <;> rfl)] at b10) | (rw [show ((0 : Int) + 1) = fl V c (b.set s left) from (by unfold fl flK flM due; first | (rw [if_neg h26, if_pos h41] <;> rfl) | (rw [if_pos (Decidable.not_not.mp h26), if_neg h41] <;> rfl))] at b10) | (rw [show (0 : Int) = fl V c (b.set s left) from (by unfold fl flK flM due; rw [if_pos (Decidable.not_not.mp h26), if_pos h41] <;> rfl)] at b10)
        refine E.CG.list ?_
        refine E.GL.run rfl rfl rfl (E.Runs.load1 rfl rfl hu72 rfl (E.blkc hM.b5 rfl)) ?_
        refine E.GL.run rfl rfl rfl (E.Runs.loads (cs := [.int .i64 (b.set s left).f0, .int .i64 (b.set s left).f1, .int .i64 (b.set s left).f2, .int .i64 (fl V c (b.set s left))]) rfl rfl hu69 rfl info69s (blk_cells b10)) ?_
        refine E.GL.st rfl rfl rfl (E.ST.lit rfl (E.epc rfl E.epn) (lit72 (mkC V c (b.set s left))) ?_)
        have hMa := hM
        refine E.GL.st rfl rfl rfl (E.ST.append k69 w0.heap.size (w0 := w0) (s := .tmp 46) (x := .tmp 48) rfl hu72 info69 rfl (by decide) (by decide) (mkC V c (b.set s left)) rfl rfl (k69_mkM _ _ _ _) (fun _ _ => trivial) hM.row hM.bel (Nat.le_trans hM.sz0 hM.szS) (by omega) fun u49 w49 r49 k49 gr49 => ?_)
        obtain ⟨A49, c49, hu49⟩ := Kd.R_slice r49
        subst hu49
        refine E.GL.sn rfl rfl (E.ST.storeSl (cs := [v]) rfl z72 o72 rfl rfl (blk_grown hMa.b5 gr49 (Kd.R_ne hMa.row hMa.b5 (by decide))) rfl rfl fun wS8 cS8 lS8 => ?_)
        have hM1 := hMa.appended r49 k49 gr49 lS8 cS8
        clear hM hMa
        refine E.GL.done ?_
        refine E.QG.code ?_
        refine E.CG.ret ?_
        refine E.QG.pass_ret ?_
        exact E.QG.result0 rfl ⟨rfl, _, by rw [chR, ← hsn]; exact hM1⟩
    · refine E.GH.one (i := 3) (by kernel_rfl) rfl ?_
      refine E.GO.st rfl rfl rfl (E.ST.call rfl ent44 (E.evc rfl E.evn) ((said_calls c.f0 a0 k0 _ (Kd.C_below hx0 hM.bel) (by omega)).mono ?_))
      rintro e w26 ⟨rfl, l26⟩
      refine ⟨_, rfl, hh.trans (E.gbB l26), ?_⟩
      replace hh := hh.trans (E.gbB l26)
      replace b7 := blk_below b7 l26
      replace b10 := blk_below b10 l26
      replace hM := hM.below l26
      refine E.GH.take (i := 4) rfl (by kernel_rfl) (by kernel_rfl) (by kernel_rfl) (by intro c a d v w h; first | (cases d <;> exact h) | exact nomatch (show _ ∧ _ from h).1) rfl rfl rfl (fun w' hS => (E.Runs.neqv rfl rfl rfl rfl (fun _ _ W => run_eqGuard_agg W _ _ _ _ _ _ Try.eqGuardType59) (bv_equal _ _) (show _ = false from by rw [decide_eq_true (Decidable.not_not.mp h26)]; rfl))) ?_
      refine E.GH.done (by kernel_rfl) ?_
      refine E.QG.code ?_
      refine E.CG.cond_f rfl ?_
      refine E.CG.skip ?_
      refine E.QG.code ?_
      refine E.CG.seq ?_
      refine E.CG.seq ?_
      refine E.CG.heldH (none) (by kernel_rfl) fun v6 lD hh => ?_
      replace b7 := blk_below b7 lD
      replace b10 := blk_below b10 lD
      replace hM := hM.below lD
      clear lD
      have s_b7 := b7
      have s_b10 := b10
      have s_hM := hM
      refine E.GH.take (i := 0) rfl (by kernel_rfl) (by kernel_rfl) (by kernel_rfl) (by intro c a d v w h; first | (cases d <;> exact h) | exact nomatch (show _ ∧ _ from h).1) rfl rfl rfl (fun w' hS => (E.Runs.fieldAddr rfl rfl hu40 rfl (by assumption) rfl)) ?_
      refine E.GH.take (i := 1) rfl (by kernel_rfl) (by kernel_rfl) (by kernel_rfl) (by intro c a d v w h; first | (cases d <;> exact h) | exact nomatch (show _ ∧ _ from h).1) rfl rfl rfl (fun w' hS => (E.Runs.load rfl rfl hu3 (E.keeps hS (E.blkc s_hM.b3 rfl) E.nen))) ?_
      refine E.GH.take (i := 2) rfl (by kernel_rfl) (by kernel_rfl) (by kernel_rfl) (by intro c a d v w h; first | (cases d <;> exact h) | exact nomatch (show _ ∧ _ from h).1) rfl rfl rfl (fun w' hS => (E.Runs.fieldAddr rfl rfl hu40 rfl (by assumption) rfl)) ?_
      refine E.GH.take (i := 3) rfl (by kernel_rfl) (by kernel_rfl) (by kernel_rfl) (by intro c a d v w h; first | (cases d <;> exact h) | exact nomatch (show _ ∧ _ from h).1) rfl rfl rfl (fun w' hS => (E.Runs.load rfl rfl hu3 (E.keeps hS (E.blkc s_hM.b3 rfl) E.nen))) ?_
      refine E.GH.take (i := 4) rfl (by kernel_rfl) (by kernel_rfl) (by kernel_rfl) (by intro c a d v w h; first | (cases d <;> exact h) | exact nomatch (show _ ∧ _ from h).1) rfl rfl rfl (fun w' hS => (E.Runs.loads (cs := [.int .i64 (b.set s left).f0, .int .i64 (b.set s left).f1, .int .i64 (b.set s left).f2]) rfl rfl hu59 rfl info59s (blk_cells (blk_grown s_b7 hS E.nen)))) ?_
      refine E.GH.take (i := 5) rfl (by kernel_rfl) (by kernel_rfl) (by kernel_rfl) (by intro c a d v w h; first | (cases d <;> exact h) | exact nomatch (show _ ∧ _ from h).1) rfl rfl rfl (fun w' hS => (E.Runs.fieldAddr rfl rfl hu25 rfl (by assumption) rfl)) ?_
      refine E.GH.take (i := 6) rfl (by kernel_rfl) (by kernel_rfl) (by kernel_rfl) (by intro c a d v w h; first | (cases d <;> exact h) | exact nomatch (show _ ∧ _ from h).1) rfl rfl rfl (fun w' hS => (E.Runs.load1 rfl rfl hu22 rfl (E.keeps hS (E.blkc s_hM.b2 rfl) E.nen))) ?_
      refine E.GH.one (i := 7) (by kernel_rfl) rfl ?_
      refine E.GO.st rfl rfl rfl (E.ST.call rfl ent47 (E.evc rfl (E.evc rfl E.evn)) ((worth_calls (b.set s left) V.ps m.A m.a _ (hV.below hM.bel).ps hn3 (fun x hx => by have := ok.p x hx; omega) ((small_set hb hs3 (by omega) (by omega)).up (by decide))).mono ?_))
      rintro e w39 ⟨rfl, l39⟩
      refine ⟨_, rfl, hh.trans (E.gbB l39), ?_⟩
      replace hh := hh.trans (E.gbB l39)
      replace b7 := blk_below b7 l39
      replace b10 := blk_below b10 l39
      replace hM := hM.below l39
      refine E.GH.take (i := 8) rfl (by kernel_rfl) (by kernel_rfl) (by kernel_rfl) (by intro c a d v w h; first | (cases d <;> exact h) | exact nomatch (show _ ∧ _ from h).1) rfl rfl rfl (fun w' hS => (E.Runs.add rfl rfl rfl (IntWalk.i64_in _ (by omega)))) ?_
      refine E.GH.cmpn (i := 9) rfl (by kernel_rfl) (by kernel_rfl) (by kernel_rfl) (by intro c a d v w h; first | (cases d <;> exact h) | exact nomatch (show _ ∧ _ from h).1) rfl rfl rfl (fun _ h w' hS => (E.Runs.neq rfl rfl rfl h)) (fun h41 => ?_) (fun h41 => ?_)
      · refine E.GH.done (by kernel_rfl) ?_
        refine E.QG.code ?_
        refine E.CG.cond_t rfl ?_
        refine E.CG.list ?_
        refine E.GL.run rfl rfl rfl (E.Runs.fieldAddr rfl rfl hu69 rfl (by assumption) rfl) ?_
        refine E.GL.run rfl rfl rfl (E.Runs.load rfl rfl hu3 (by first | assumption | exact E.blkc (by assumption) rfl)) ?_
        refine E.GL.run rfl rfl rfl (E.Runs.add rfl rfl rfl (IntWalk.i64_in _ (by omega))) ?_
        refine E.GL.run rfl rfl rfl (E.Runs.fieldAddr rfl rfl hu69 rfl (by assumption) rfl) ?_
        refine E.GL.sn rfl rfl (E.ST.store rfl (by assumption) (by assumption) rfl rfl b10 rfl rfl fun wS7_4 c10 lS7_4 => ?_)
        replace b7 := blk_grown b7 lS7_4 (E.nes (by first | assumption | exact Ne.symm (by assumption)))
        replace hM := hM.grown lS7_4 (by first | exact ⟨⟨_, _, b10, by decide⟩, hr10, hs10⟩ | exact ⟨⟨_, _, b7, by decide⟩, Kd.R_ne hM.row b7 (by decide), hs7⟩)
        replace b10 := c10
        clear c10
        refine E.GL.done ?_
        refine E.QG.code ?_
        refine E.CG.seq ?_
        first | (rw [show ((0 : Int) + 1 + 1) = fl V c (b.set s left) from (by unfold fl flK flM due; rw [if_neg h26, if_neg h41] <;> rfl)] at b10) | (rw [show ((0 : Int) + 1) = fl V c (b.set s left) from (by unfold fl flK flM due; first | (rw [if_neg h26, if_pos h41] <;> rfl) | (rw [if_pos (Decidable.not_not.mp h26), if_neg h41] <;> rfl))] at b10) | (rw [show (0 : Int) = fl V c (b.set s left) from (by unfold fl flK flM due; rw [if_pos (Decidable.not_not.mp h26), if_pos h41] <;> rfl)] at b10)
        refine E.CG.list ?_
        refine E.GL.run rfl rfl rfl (E.Runs.load1 rfl rfl hu72 rfl (E.blkc hM.b5 rfl)) ?_
        refine E.GL.run rfl rfl rfl (E.Runs.loads (cs := [.int .i64 (b.set s left).f0, .int .i64 (b.set s left).f1, .int .i64 (b.set s left).f2, .int .i64 (fl V c (b.set s left))]) rfl rfl hu69 rfl info69s (blk_cells b10)) ?_
        refine E.GL.st rfl rfl rfl (E.ST.lit rfl (E.epc rfl E.epn) (lit72 (mkC V c (b.set s left))) ?_)
        have hMa := hM
        refine E.GL.st rfl rfl rfl (E.ST.append k69 w0.heap.size (w0 := w0) (s := .tmp 46) (x := .tmp 48) rfl hu72 info69 rfl (by decide) (by decide) (mkC V c (b.set s left)) rfl rfl (k69_mkM _ _ _ _) (fun _ _ => trivial) hM.row hM.bel (Nat.le_trans hM.sz0 hM.szS) (by omega) fun u49 w49 r49 k49 gr49 => ?_)
        obtain ⟨A49, c49, hu49⟩ := Kd.R_slice r49
        subst hu49
        refine E.GL.sn rfl rfl (E.ST.storeSl (cs := [v]) rfl z72 o72 rfl rfl (blk_grown hMa.b5 gr49 (Kd.R_ne hMa.row hMa.b5 (by decide))) rfl rfl fun wS8 cS8 lS8 => ?_)
        have hM1 := hMa.appended r49 k49 gr49 lS8 cS8
        clear hM hMa
        refine E.GL.done ?_
        refine E.QG.code ?_
        refine E.CG.ret ?_
        refine E.QG.pass_ret ?_
        exact E.QG.result0 rfl ⟨rfl, _, by rw [chR, ← hsn]; exact hM1⟩
      · refine E.GH.done (by kernel_rfl) ?_
        refine E.QG.code ?_
        refine E.CG.cond_f rfl ?_
        refine E.CG.skip ?_
        refine E.QG.code ?_
        refine E.CG.seq ?_
        first | (rw [show ((0 : Int) + 1 + 1) = fl V c (b.set s left) from (by unfold fl flK flM due; rw [if_neg h26, if_neg h41] <;> rfl)] at b10) | (rw [show ((0 : Int) + 1) = fl V c (b.set s left) from (by unfold fl flK flM due; first | (rw [if_neg h26, if_pos h41] <;> rfl) | (rw [if_pos (Decidable.not_not.mp h26), if_neg h41] <;> rfl))] at b10) | (rw [show (0 : Int) = fl V c (b.set s left) from (by unfold fl flK flM due; rw [if_pos (Decidable.not_not.mp h26), if_pos h41] <;> rfl)] at b10)
        refine E.CG.list ?_
        refine E.GL.run rfl rfl rfl (E.Runs.load1 rfl rfl hu72 rfl (E.blkc hM.b5 rfl)) ?_
        refine E.GL.run rfl rfl rfl (E.Runs.loads (cs := [.int .i64 (b.set s left).f0, .int .i64 (b.set s left).f1, .int .i64 (b.set s left).f2, .int .i64 (fl V c (b.set s left))]) rfl rfl hu69 rfl info69s (blk_cells b10)) ?_
        refine E.GL.st rfl rfl rfl (E.ST.lit rfl (E.epc rfl E.epn) (lit72 (mkC V c (b.set s left))) ?_)
        have hMa := hM
        refine E.GL.st rfl rfl rfl (E.ST.append k69 w0.heap.size (w0 := w0) (s := .tmp 46) (x := .tmp 48) rfl hu72 info69 rfl (by decide) (by decide) (mkC V c (b.set s left)) rfl rfl (k69_mkM _ _ _ _) (fun _ _ => trivial) hM.row hM.bel (Nat.le_trans hM.sz0 hM.szS) (by omega) fun u49 w49 r49 k49 gr49 => ?_)
        obtain ⟨A49, c49, hu49⟩ := Kd.R_slice r49
        subst hu49
        refine E.GL.sn rfl rfl (E.ST.storeSl (cs := [v]) rfl z72 o72 rfl rfl (blk_grown hMa.b5 gr49 (Kd.R_ne hMa.row hMa.b5 (by decide))) rfl rfl fun wS8 cS8 lS8 => ?_)
        have hM1 := hMa.appended r49 k49 gr49 lS8 cS8
        clear hM hMa
        refine E.GL.done ?_
        refine E.QG.code ?_
        refine E.CG.ret ?_
        refine E.QG.pass_ret ?_
        exact E.QG.result0 rfl ⟨rfl, _, by rw [chR, ← hsn]; exact hM1⟩
  · refine E.GL.run rfl rfl rfl (E.Runs.eql rfl rfl rfl (decide_eq_false (by omega))) ?_
    refine E.GL.done ?_
    refine E.QG.code ?_
    refine E.CG.cond_f rfl ?_
    refine E.CG.skip ?_
    refine E.QG.code ?_
    refine E.CG.seq ?_
    refine E.CG.list ?_
    refine E.GL.run rfl rfl rfl (E.Runs.move rfl rfl) ?_
    refine E.GL.run rfl rfl rfl (E.Runs.add rfl rfl rfl (IntWalk.i64_in _ (by omega))) ?_
    refine E.GL.run rfl rfl rfl (E.Runs.move rfl rfl) ?_
    refine E.GL.done ?_
    refine E.QG.code ?_
    refine E.CG.block ?_
    have s10_b7 := b7
    refine E.CG.loop2 (fun (i : Nat) (v : Value) => [(1, .int .i64 (s : Int)), (2, .int .i64 (left : Int)), (3, .pointer (some ⟨g2, 0, none⟩)), (4, .pointer (some ⟨g3, 0, none⟩)), (5, .pointer (some ⟨g5, 0, none⟩)), (6, .pointer (some ⟨g6, 0, none⟩)), (7, .pointer (some ⟨g7, 0, none⟩)), (51, .int .i64 ((left : Int) + 1)), (52, .int .i64 i)]) (fun i v w' => i ≤ left + 1 ∧ (∃ bb : Bl, (∀ x, bb.set s x = b.set s x) ∧ w'.heap[g7]? = some (.cells #[.int .i64 bb.f0, .int .i64 bb.f1, .int .i64 bb.f2] 59 (0, 0))) ∧ Cs w0 w w' V m c a0 k0 g2 g3 g5 g6 v (xs ++ pfx V c V.ps.length k s b left i)) (fun i v => left + 1 - i) 0 v (E.subc rfl (E.subc rfl (E.subc rfl (E.subc rfl (E.subc rfl (E.subc rfl (E.subc rfl (E.subc rfl (E.subc rfl E.subn))))))))) ⟨Nat.zero_le _, ⟨b, fun _ => rfl, b7⟩, by rw [show pfx V c V.ps.length k s b left 0 = [] from rfl, List.append_nil]; exact hM⟩ ?_
    rintro i v w10 ⟨hi, b7, hM⟩
    refine E.CG.seq ?_
    refine E.CG.list ?_
    refine E.GL.cmp rfl rfl rfl (fun _ h => (E.Runs.lss rfl rfl rfl h)) (fun h53 => ?_) (fun h53 => ?_)
    · obtain ⟨bb, hbb, b7⟩ := b7
      have hlen : (xs ++ pfx V c V.ps.length k s b left i).length + 21 ^ k ≤ 1000000 := by
        have h1 := pfx_len V c V.ps.length k s b hl i (by omega)
        have h2 : (i + 1) * 21 ^ k ≤ 21 * 21 ^ k := Nat.mul_le_mul_right _ (by omega)
        rw [Nat.pow_succ, Nat.mul_comm (21 ^ k)] at hxl
        rw [Nat.add_mul, Nat.one_mul] at h2
        rw [List.length_append]
        omega
      refine E.GL.done ?_
      refine E.QG.code ?_
      refine E.CG.seq ?_
      refine E.CG.cond_t rfl ?_
      refine E.CG.skip ?_
      refine E.QG.code ?_
      refine E.CG.seq ?_
      refine E.CG.block ?_
      refine E.CG.seq ?_
      refine E.CG.list ?_
      refine E.GL.run rfl rfl rfl (E.Runs.move rfl rfl) ?_
      refine E.GL.run rfl rfl rfl (E.Runs.assign rfl rfl) ?_
      refine E.GL.done ?_
      refine E.QG.code ?_
      refine E.CG.seq ?_
      refine E.CG.list ?_
      refine E.GL.run rfl rfl rfl (E.Runs.move rfl rfl) ?_
      refine E.GL.run rfl rfl rfl (E.Runs.move rfl rfl) ?_
      refine E.GL.run rfl rfl rfl (E.Runs.indexArr rfl rfl rfl hu59 z3 o3 (by omega) (by omega) (show _ = (⟨g7, s, none⟩ : Addr) from by rw [Go.Addr.add_mid]; simp)) ?_
      refine E.GL.sn rfl rfl (E.ST.store rfl z3 o3 rfl rfl b7 (show Nat.blt s 3 = true from by simpa [Nat.blt_eq] using hs3) (show _ = _ from b3_set hs3 _) fun wQ c7 lQ => ?_)
      replace hM := hM.grown lQ ⟨⟨_, _, b7, by decide⟩, Kd.R_ne hM.row b7 (by decide), hs7⟩
      replace b7 := c7
      clear c7 lQ
      rw [hbb] at b7
      refine E.GL.done ?_
      refine E.QG.code ?_
      refine E.CG.list ?_
      refine E.GL.run rfl rfl rfl (E.Runs.load1 rfl rfl hu103 rfl (E.blkc hM.b6 rfl)) ?_
      refine E.GL.run rfl rfl rfl (E.Runs.loads (cs := [.int .i64 (b.set s i).f0, .int .i64 (b.set s i).f1, .int .i64 (b.set s i).f2]) rfl rfl hu59 rfl info59s (blk_cells b7)) ?_
      refine E.GL.run rfl rfl rfl (E.Runs.move rfl rfl) ?_
      refine E.GL.run rfl rfl rfl (E.Runs.add rfl rfl rfl (IntWalk.i64_in _ (by omega))) ?_
      refine E.GL.run rfl rfl rfl (E.Runs.move rfl rfl) ?_
      refine E.GL.run rfl rfl rfl (E.Runs.move rfl rfl) ?_
      refine E.GL.run rfl rfl rfl (E.Runs.sub rfl rfl rfl (IntWalk.i64_in _ (by omega))) ?_
      have hih := ih k (Nat.lt_succ_self _) (s + 1) (b.set s i) (left - i) _ _ _ (by omega) (small_set hb hs3 (by omega) (by omega)) (by omega) hlen hM.enter
      rw [show ((s + 1 : Nat) : Int) = (s : Int) + 1 by omega, show ((left - i : Nat) : Int) = (left : Int) - i by omega] at hih
      refine E.GL.st rfl rfl rfl (E.ST.callV (cap := [.pointer (some ⟨g2, 0, none⟩), .pointer (some ⟨g3, 0, none⟩), .pointer (some ⟨g5, 0, none⟩), .pointer (some ⟨g6, 0, none⟩)]) rfl ent82 rfl (E.evc rfl (E.evc rfl (E.evc rfl E.evn))) (hih.mono ?_))
      rintro e w65 ⟨rfl, v', hR⟩
      refine ⟨_, rfl, ?_⟩
      replace b7 := hR.calm _ _ _ _ b7 (by decide) (by decide)
      replace hM := hM.leave hR
      clear hR
      refine E.GL.done ?_
      refine E.QG.block_normal ?_
      refine E.QG.code ?_
      refine E.CG.list ?_
      refine E.GL.run rfl rfl rfl (E.Runs.add rfl rfl rfl (IntWalk.i64_in _ (by omega))) ?_
      refine E.GL.run rfl rfl rfl (E.Runs.move rfl rfl) ?_
      refine E.GL.done ?_
      exact E.QG.round2 (d := v) (i + 1) _ (E.subc rfl (E.subc rfl (E.subc rfl (E.subc rfl (E.subc rfl (E.subc rfl (E.subc rfl (E.subc rfl (E.subc rfl E.subn))))))))) ⟨by omega, ⟨b.set s i, fun x => set_set b s i x, b7⟩, by rw [pfx_next, ← List.append_assoc]; exact hM⟩ (by omega)
    · obtain rfl : i = left + 1 := by omega
      refine E.GL.done ?_
      refine E.QG.code ?_
      refine E.CG.seq ?_
      refine E.CG.cond_f rfl ?_
      refine E.CG.exit ?_
      refine E.QG.pass_exit ?_
      refine E.QG.pass_exit ?_
      refine E.QG.block_here ?_
      exact E.QG.result_n0 rfl ⟨rfl, _, by rw [chR, show V.ps.length - 1 - (k + 1) = s by omega]; exact hM⟩

end Go.Proofs.Ytiplichdhcmjdaa.T
namespace Go.Proofs.Ytiplichdhcmjdaa.E
open Go.RowKit Go.Proofs.YtiplichdhcmjdaaW.PrintWords Go.Proofs.YtiplichdhcmjdaaW.PrintMore
open Go.Proofs.Ytiplichdhcmjdaa.T
set_option linter.unusedVariables false
section
variable {P : Program} {w : World} {N : Nat} {env : Env} {o : Oper} {Q : Exit → Act → World → Prop} {K : Value → World → Prop}
theorem ST.storeX {ty : TypeId} {x y : Operand} {g i : Nat} {v : Value} {cs cs' : List Value} {t : TypeId} (ho : o.op = .store ty x y) (hz : Sized P ty) (hz1 : P.cellsOf ty = 1) (hx : Ev env x (.pointer (some ⟨g, i, none⟩))) (hy : Ev env y v) (hv : (∃ f a b, v = .func f a b) ∨ ∃ k, v = .map k)
    (hb : w.heap[g]? = some (.cells cs.toArray t (0, 0))) (hi : Nat.blt i cs.length = true) (hcs : cs.set i v = cs') (h : ∀ w1, w1.heap[g]? = some (.cells cs'.toArray t (0, 0)) → w.grownBy w1 (some g) → K undef w1) : ST P Q N env w o K := by
  intro a ha Kc hK
  have hi' : i < cs.length := by simpa [Nat.blt_eq] using hi
  have h1 : w.cell? ⟨g, i, none⟩ = some cs[i] := by rw [blk_cell hb]; simp [hi']
  have h2 : w.frozen? ⟨g, i, none⟩ = false := blk_frozen hb i
  have hr : (execOp a.eval o).run P w = .ok .skip (w.setCell ⟨g, i, none⟩ v) := by
    unfold execOp; rw [ho]; simp only []; rw [ha.eval hx, ha.eval hy]
    obtain ⟨inf, q1, q2⟩ := hz
    rcases hv with ⟨f, a, b, rfl⟩ | ⟨k, rfl⟩ <;> simp [go_sem, run_sizeOf w q1, hz1, h1, h2]
  unfold Oper.wp
  rw [hr]
  refine hK undef _ (h _ ?_ (gb_set (World.grownBy.refl w _) (.inr rfl) _))
  rw [blk_set hb, ← hcs]
  simp
theorem ST.storeXC {ty : TypeId} {x y : Operand} {b off : Nat} {v old : Value} (ho : o.op = .store ty x y) (hz : Sized P ty) (hz1 : P.cellsOf ty = 1) (hx : Ev env x (.pointer (some ⟨b, off, none⟩))) (hy : Ev env y v) (hv : (∃ f a b, v = .func f a b) ∨ ∃ k, v = .map k)
    (h1 : w.cell? ⟨b, off, none⟩ = some old) (h2 : w.frozen? ⟨b, off, none⟩ = false) (h : K undef (w.setCell ⟨b, off, none⟩ v)) : ST P Q N env w o K := by
  intro a ha Kc hK
  have hr : (execOp a.eval o).run P w = .ok .skip (w.setCell ⟨b, off, none⟩ v) := by
    unfold execOp; rw [ho]; simp only []; rw [ha.eval hx, ha.eval hy]
    obtain ⟨inf, q1, q2⟩ := hz
    rcases hv with ⟨f, a, b, rfl⟩ | ⟨k, rfl⟩ <;> simp [go_sem, run_sizeOf w q1, hz1, h1, h2]
  unfold Oper.wp
  rw [hr]
  exact hK _ _ h
end
end Go.Proofs.Ytiplichdhcmjdaa.E
namespace Go.Proofs.Ytiplichdhcmjdaa.T
open Go.RowKit Go.Proofs.YtiplichdhcmjdaaW.PrintWords Go.Proofs.YtiplichdhcmjdaaW.PrintMore
open Go.Proofs.Ytiplichdhcmjdaa.P
set_option linter.unusedVariables false
set_option linter.unusedSimpArgs false

theorem info103s : (Try.prog.info? 103).map (·.size) = some 1 := by kernel_rfl
theorem info103z : (Try.prog.info? 103).map (·.zero) = some (some .nilFunc) := by kernel_rfl
set_option maxRecDepth 100000 in
theorem build59z (W : World) : (Instr.build 59 #[]).run Try.prog W = .ok (bv Bl.z) W := by
  have hu3 := Try.underlying3
  have hu59 := Try.underlying59
  unfold bv Bl.z
  go_simp
section
variable {w0 : World} {V : Ev} {m : Ea} {c : S40} {a0 : Option Addr} {k0 g2 g3 g5 g6 : Nat}
theorem more_calls (hV : EvM w0 V m) (hx0 : Kd.C kI w0 a0 c.f0.length c.f0) (ok : VOk V) (hc : COk V.ps.length c) (k : Nat) : MoreC w0 V m c a0 k0 g2 g3 g5 g6 k := by
  induction k using Nat.strongRecOn with
  | _ k ih => exact more_step w0 V m c a0 k0 g2 g3 g5 g6 k hV hx0 ok hc ih
theorem more_top {w : World} (hV : EvM w0 V m) (hx0 : Kd.C kI w0 a0 c.f0.length c.f0) (ok : VOk V) (hc : COk V.ps.length c) (hM : Cs w0 w w V m c a0 k0 g2 g3 g5 g6 (.slice none 0 0) []) :
    Calls Try.prog 82 #[bv Bl.z, .int .i64 0, .int .i64 (rl c), .pointer (some ⟨g2, 0, none⟩), .pointer (some ⟨g3, 0, none⟩), .pointer (some ⟨g5, 0, none⟩), .pointer (some ⟨g6, 0, none⟩)] w fun e w' => e = .returned (.tuple #[]) ∧ ∃ v', Cs w0 w w' V m c a0 k0 g2 g3 g5 g6 v' (chs V c) := by
  have h1 := ok.n1
  have h3 := ok.n3
  have h8 := hc.2.2.2.2.2.2.2
  have := more_calls (g2 := g2) (g3 := g3) (g5 := g5) (g6 := g6) (k0 := k0) hV hx0 ok hc (V.ps.length - 1) 0 Bl.z (rl c).toNat [] _ w (by omega) (fun i hi => by
    unfold Bl.z Bl.get
    by_cases q : i = 0
    · simp [q]
    · by_cases q1 : i = 1 <;> simp [q, q1]) (by omega) (by
    have : 21 ^ (V.ps.length - 1) ≤ 21 ^ 2 := Nat.pow_le_pow_right (by decide) (by omega)
    simp only [List.length_nil]
    omega) hM
  rw [show (((rl c).toNat : Nat) : Int) = rl c by omega] at this
  exact this
end
set_option maxRecDepth 100000 in
set_option maxHeartbeats 8000000 in

theorem choices_calls (V : Ev) (m : Ea) (w : World) (hV : EvM w V m) (ok : VOk V) (c : S40) (a0 : Option Addr) (k0 : Nat) (hx0 : Kd.C kI w a0 c.f0.length c.f0) (hc : COk V.ps.length c) :
    Calls Try.prog 73 #[hv V m, .agg #[.slice a0 c.f0.length k0, .int .i64 c.f1, .int .i64 c.f2, .int .i64 c.f3, .int .i64 c.f4, .int .i64 c.f5]] w fun e w' => ∃ A k, e = .returned (.slice A (chs V c).length k) ∧ Kd.R k69 69 w' w.heap.size (fun _ => True) (.slice A (chs V c).length k) (chs V c) ∧ Below w.heap.size w w' := by
  obtain ⟨q1, q2, q3, q4, q5, q6, q7, q8⟩ := id hc
  have hu3 := Try.underlying3
  have hu22 := Try.underlying22
  have hu25 := Try.underlying25
  have hu40 := Try.underlying40
  have hu59 := Try.underlying59
  have hu69 := Try.underlying69
  have hu72 := Try.underlying72
  have hu103 := Try.underlying103
  obtain ⟨z103, o103⟩ := info_some info103s (by decide)
  obtain ⟨z3, o3⟩ := info_some info3s (by decide)
  obtain ⟨z22, o22⟩ := info_some info22s (by decide)
  obtain ⟨z40, o40⟩ := info_some info40s (by decide)
  obtain ⟨z59, o59⟩ := info_some info59s (by decide)
  obtain ⟨z69, o69⟩ := info_some info69s (by decide)
  obtain ⟨z72, o72⟩ := info_some info72s (by decide)
  refine E.enter (N := 14) Try.func73 rfl Try.ntmps73 (args := [hv V m, .agg #[.slice a0 c.f0.length k0, .int .i64 c.f1, .int .i64 c.f2, .int .i64 c.f3, .int .i64 c.f4, .int .i64 c.f5]]) (by simp) ?_
  have L := Below.refl w.heap.size w
  refine E.CG.seq ?_
  refine E.CG.list ?_
  refine E.GL.st rfl rfl rfl (E.ST.box rfl rfl fun g2 w2 e2 b2 l2 => ?_)
  have h2_L : w.heap.size ≤ g2 := by rw [e2]; exact L.size
  replace L := below_step L l2
  refine E.GL.st rfl rfl rfl (E.ST.box rfl rfl fun g3 w3 e3 b3 l3 => ?_)
  have h3_L : w.heap.size ≤ g3 := by rw [e3]; exact L.size
  have n3_b2 : g2 ≠ g3 := by have := blk_lt b2; omega
  replace b2 := blk_below b2 l3
  replace L := below_step L l3
  refine E.GL.run rfl rfl rfl (E.Runs.assign rfl rfl) ?_
  refine E.GL.done ?_
  refine E.QG.code ?_
  refine E.CG.seq ?_
  refine E.CG.list ?_
  refine E.GL.st rfl rfl rfl (E.ST.allocZ rfl info72z rfl fun g5 w5 e5 b5 l5 => ?_)
  have h5_L : w.heap.size ≤ g5 := by rw [e5]; exact L.size
  have n5_b2 : g2 ≠ g5 := by have := blk_lt b2; omega
  have n5_b3 : g3 ≠ g5 := by have := blk_lt b3; omega
  replace b2 := blk_below b2 l5
  replace b3 := blk_below b3 l5
  replace L := below_step L l5
  refine E.GL.done ?_
  refine E.QG.code ?_
  refine E.CG.seq ?_
  refine E.CG.list ?_
  refine E.GL.st rfl rfl rfl (E.ST.allocZ rfl info103z rfl fun g6 w6 e6 b6 l6 => ?_)
  have h6_L : w.heap.size ≤ g6 := by rw [e6]; exact L.size
  have n6_b2 : g2 ≠ g6 := by have := blk_lt b2; omega
  have n6_b3 : g3 ≠ g6 := by have := blk_lt b3; omega
  have n6_b5 : g5 ≠ g6 := by have := blk_lt b5; omega
  replace b2 := blk_below b2 l6
  replace b3 := blk_below b3 l6
  replace b5 := blk_below b5 l6
  replace L := below_step L l6
  refine E.GL.done ?_
  refine E.QG.code ?_
  refine E.CG.seq ?_
  refine E.CG.list ?_
  refine E.GL.run rfl rfl rfl (E.Runs.makeFunc rfl (E.evc rfl (E.evc rfl (E.evc rfl (E.evc rfl E.evn))))) ?_
  refine E.GL.sn rfl rfl (E.ST.storeX (cs := [.nilFunc]) rfl z103 o103 rfl rfl (.inl ⟨_, _, _, rfl⟩) b6 rfl rfl fun wS31 c6 lS31 => ?_)
  replace b2 := blk_grown b2 lS31 (E.nes (by first | assumption | exact Ne.symm (by assumption)))
  replace b3 := blk_grown b3 lS31 (E.nes (by first | assumption | exact Ne.symm (by assumption)))
  replace b5 := blk_grown b5 lS31 (E.nes (by first | assumption | exact Ne.symm (by assumption)))
  replace L := E.below_own L h6_L lS31
  replace b6 := c6
  clear c6
  refine E.GL.done ?_
  refine E.QG.code ?_
  refine E.CG.seq ?_
  refine E.CG.heldJ 4 (fun v W => v.grownBy W (none)) (fun _ _ => True) (by kernel_rfl) (by kernel_rfl) (fun v => World.grownBy.refl _ _) fun v4 lD => ?_
  replace b2 := blk_below b2 lD
  replace b3 := blk_below b3 lD
  replace b5 := blk_below b5 lD
  replace b6 := blk_below b6 lD
  replace L := below_step L lD
  have lD4 := lD
  clear lD
  have s_b2 := b2
  have s_b3 := b3
  have s_b5 := b5
  have s_b6 := b6
  have s_L := L
  have hh : v4.grownBy v4 (none) := World.grownBy.refl _ _
  refine E.GJ.take1 (i := 0) rfl (by kernel_rfl) (by kernel_rfl) (by kernel_rfl) (by kernel_rfl) rfl (by kernel_rfl) (by kernel_rfl) (by intro c a d v w h; first | (cases d <;> exact h) | exact nomatch (show _ ∧ _ from h).1) rfl rfl rfl (fun w' hS => (E.Runs.load1 rfl rfl hu103 rfl (E.keeps hS (E.blkc s_b6 rfl) E.nen))) ?_
  refine E.GJ.take1 (i := 1) rfl (by kernel_rfl) (by kernel_rfl) (by kernel_rfl) (by kernel_rfl) rfl (by kernel_rfl) (by kernel_rfl) (by intro c a d v w h; first | (cases d <;> exact h) | exact nomatch (show _ ∧ _ from h).1) rfl rfl rfl (fun w' hS => (E.Runs.build rfl E.epn build59z)) ?_
  refine E.GJ.take1t (i := 2) 3 rfl (by kernel_rfl) (by kernel_rfl) (by kernel_rfl) (by kernel_rfl) rfl (by kernel_rfl) rfl (by kernel_rfl) (by kernel_rfl) (by kernel_rfl) (by kernel_rfl) (by kernel_rfl) (by intro c a d v w h; first | (cases d <;> exact h) | exact nomatch (show _ ∧ _ from h).1) rfl rfl rfl (fun w' hS => (E.Runs.loads (cs := [.slice a0 c.f0.length k0, .int .i64 c.f1, .int .i64 c.f2, .int .i64 c.f3, .int .i64 c.f4, .int .i64 c.f5]) rfl rfl hu40 rfl info40s (blk_cells (blk_grown s_b3 hS E.nen)))) ?_
  refine E.GJ.one (i := 3) (by kernel_rfl) (E.OJ.st rfl rfl rfl rfl (E.ST.call rfl ent46 (E.evc rfl E.evn) ((roll_o c a0 k0 _ q3 q4 q7).mono ?_)))
  rintro e w11 ⟨rfl, l11⟩
  refine ⟨_, rfl, (E.SJ.before (by kernel_rfl)).mpr (hh.trans (E.gbB l11)), ?_⟩
  replace hh := hh.trans (E.gbB l11)
  replace b2 := blk_below b2 l11
  replace b3 := blk_below b3 l11
  replace b5 := blk_below b5 l11
  replace b6 := blk_below b6 l11
  replace L := below_step L l11
  refine E.GJ.one (i := 4) (by kernel_rfl) (E.OJ.st rfl rfl rfl rfl (E.ST.callV (cap := [.pointer (some ⟨g2, 0, none⟩), .pointer (some ⟨g3, 0, none⟩), .pointer (some ⟨g5, 0, none⟩), .pointer (some ⟨g6, 0, none⟩)]) rfl ent82 rfl (E.evc rfl (E.evc rfl (E.evc rfl E.evn))) ((more_top hV hx0 ok hc ⟨b2, b3, b5, b6, Kd.R_nil _ _ _ _ _, h5_L, L, L.size, Nat.le_refl _, CalmT.refl _ _ _⟩).mono ?_)))
  rintro e w12 ⟨rfl, v5, hR⟩
  refine ⟨_, rfl, (E.SJ.behind (by kernel_rfl)).mpr trivial, ?_⟩
  obtain ⟨A5, c5, hv5⟩ := Kd.R_slice hR.row
  subst hv5
  replace L := hR.bel
  clear b2 b3 b5 b6
  refine E.GJ.done (by kernel_rfl) ?_
  refine E.QG.code ?_
  refine E.CG.seq ?_
  refine E.CG.list ?_
  refine E.GL.run rfl rfl rfl (E.Runs.load1 rfl rfl hu72 rfl (E.blkc hR.b5 rfl)) ?_
  refine E.GL.run rfl rfl rfl (E.Runs.assign rfl rfl) ?_
  refine E.GL.done ?_
  refine E.QG.code ?_
  refine E.CG.ret ?_
  exact E.QG.result rfl rfl ⟨_, _, rfl, hR.row, L⟩

end Go.Proofs.Ytiplichdhcmjdaa.T
namespace Go.Proofs.Ytiplichdhcmjdaa.T
open Go.RowKit Go.Proofs.YtiplichdhcmjdaaW.PrintWords Go.Proofs.YtiplichdhcmjdaaW.PrintMore
open Go.Proofs.Ytiplichdhcmjdaa.P
set_option linter.unusedVariables false
set_option linter.unusedSimpArgs false

/-- What least leaves. -/
def lst (f : Bl → Option Int) (b : Bl) (x : Int) : Bl → Option Int := match f b with
  | none => E.upd f b x
  | some m => if x < m then E.upd f b x else f
theorem lst_none {f : Bl → Option Int} {b : Bl} {x : Int} (h : f b = none) : lst f b x = E.upd f b x := by unfold lst; rw [h]
theorem lst_yes {f : Bl → Option Int} {b : Bl} {x m : Int} (h : f b = some m) (k : x < m) : lst f b x = E.upd f b x := by unfold lst; rw [h]; exact if_pos k
theorem lst_no {f : Bl → Option Int} {b : Bl} {x m : Int} (h : f b = some m) (k : ¬ x < m) : lst f b x = f := by unfold lst; rw [h]; exact if_neg k
theorem lst_mn {f : Bl → Option Int} {p : Bl → Int → Prop} {b : Bl} {x : Int} (h : ∀ c, Mn (p c) (f c)) : ∀ c, Mn (fun n => p c n ∨ (c = b ∧ n = x)) (lst f b x c) := by
  intro c
  by_cases e : c = b
  · subst e
    have hc := h c
    cases hf : f c with
    | none =>
      rw [hf] at hc
      rw [lst_none hf, show E.upd f c x c = some x from by simp [E.upd]]
      exact ⟨.inr ⟨rfl, rfl⟩, fun n k => k.elim (fun q => absurd q (hc n)) (fun q => by omega)⟩
    | some m =>
      rw [hf] at hc
      by_cases q : x < m
      · rw [lst_yes hf q, show E.upd f c x c = some x from by simp [E.upd]]
        exact ⟨.inr ⟨rfl, rfl⟩, fun n k => k.elim (fun z => by have := hc.2 n z; omega) (fun z => by omega)⟩
      · rw [lst_no hf q, hf]
        exact ⟨.inl hc.1, fun n k => k.elim (hc.2 n) (fun z => by omega)⟩
  · have h2 : lst f b x c = f c := by
      unfold lst
      cases hf : f b with
      | none => simp [E.upd, e]
      | some m => by_cases q : x < m <;> simp [q, E.upd, e]
    rw [h2]
    exact (h c).congr fun n => by simp [e]
set_option maxRecDepth 100000 in
set_option maxHeartbeats 8000000 in

theorem least_calls (g : Nat) (f : Bl → Option Int) (b : Bl) (x : Int) (w : World) (hM : MB w g f) :
    Calls Try.prog 75 #[.map (some g), bv b, .int .i64 x] w fun e w' => e = .returned (.tuple #[]) ∧ MB w' g (lst f b x) ∧ w.grownBy w' (some g) := by
  have hu3 := Try.underlying3
  have hu59 := Try.underlying59
  have hu91 := Try.underlying91
  obtain ⟨z3, o3⟩ := info_some info3s (by decide)
  obtain ⟨z59, o59⟩ := info_some info59s (by decide)
  refine E.enter (N := 24) Try.func75 rfl Try.ntmps75 (args := [.map (some g), bv b, .int .i64 x]) (by simp) ?_
  have L := Below.refl w.heap.size w
  refine E.CG.seq ?_
  refine E.CG.list ?_
  refine E.GL.st rfl rfl rfl (E.ST.box rfl rfl fun g4 w4 e4 b4 l4 => ?_)
  have h4_L : w.heap.size ≤ g4 := by rw [e4]; exact L.size
  replace hM := hM.below l4
  replace L := below_step L l4
  refine E.GL.done ?_
  refine E.QG.code ?_
  refine E.CG.seq ?_
  refine E.CG.list ?_
  refine E.GL.run rfl rfl rfl (E.Runs.move rfl rfl) ?_
  refine E.GL.run rfl rfl rfl (E.Runs.loads (cs := [.int .i64 b.f0, .int .i64 b.f1, .int .i64 b.f2]) rfl rfl hu59 rfl info59s (blk_cells b4)) ?_
  rcases hf : f b with _ | m0
  · refine E.GL.run rfl rfl rfl (E.Runs.lookupF rfl rfl kBT rfl hu91 zero3I hM (show _ = Value.tuple #[.int .i64 0, .bool false] from by simp [hf])) ?_
    refine E.GL.run rfl rfl rfl (E.Runs.move rfl rfl) ?_
    refine E.GL.run rfl rfl rfl (E.Runs.extract rfl rfl rfl) ?_
    refine E.GL.run rfl rfl rfl (E.Runs.extract rfl rfl rfl) ?_
    refine E.GL.run rfl rfl rfl (E.Runs.assign rfl rfl) ?_
    refine E.GL.run rfl rfl rfl (E.Runs.assign rfl rfl) ?_
    refine E.GL.done ?_
    refine E.QG.code ?_
    refine E.CG.seq ?_
    have hG : w.grownBy _ (some g) := E.gbB L
    refine E.CG.list ?_
    refine E.GL.run rfl rfl rfl (E.Runs.move rfl rfl) ?_
    refine E.GL.run rfl rfl rfl (E.Runs.not rfl rfl) ?_
    refine E.GL.run rfl rfl rfl (E.Runs.move rfl rfl) ?_
    refine E.GL.skip rfl rfl rfl ?_
    refine E.GL.skip rfl rfl rfl ?_
    refine E.GL.skip rfl rfl rfl ?_
    refine E.GL.run rfl rfl rfl (E.Runs.pick_t rfl rfl rfl) ?_
    refine E.GL.done ?_
    refine E.QG.code ?_
    refine E.CG.cond_t rfl ?_
    refine E.CG.list ?_
    refine E.GL.run rfl rfl rfl (E.Runs.move rfl rfl) ?_
    refine E.GL.run rfl rfl rfl (E.Runs.loads (cs := [.int .i64 b.f0, .int .i64 b.f1, .int .i64 b.f2]) rfl rfl hu59 rfl info59s (blk_cells b4)) ?_
    refine E.GL.run rfl rfl rfl (E.Runs.move rfl rfl) ?_
    refine E.GL.sn rfl rfl (E.ST.mapUpdate rfl rfl kBT b rfl rfl hu91 hM fun wQ mQ lQ => ?_)
    replace hG := hG.trans lQ
    replace hM := mQ
    refine E.GL.done ?_
    exact E.QG.result_n0 rfl ⟨rfl, by rw [lst_none hf]; exact hM, hG⟩
  · refine E.GL.run rfl rfl rfl (E.Runs.lookupF rfl rfl kBT rfl hu91 zero3I hM (show _ = Value.tuple #[.int .i64 m0, .bool true] from by simp [hf])) ?_
    refine E.GL.run rfl rfl rfl (E.Runs.move rfl rfl) ?_
    refine E.GL.run rfl rfl rfl (E.Runs.extract rfl rfl rfl) ?_
    refine E.GL.run rfl rfl rfl (E.Runs.extract rfl rfl rfl) ?_
    refine E.GL.run rfl rfl rfl (E.Runs.assign rfl rfl) ?_
    refine E.GL.run rfl rfl rfl (E.Runs.assign rfl rfl) ?_
    refine E.GL.done ?_
    refine E.QG.code ?_
    refine E.CG.seq ?_
    have hG : w.grownBy _ (some g) := E.gbB L
    refine E.CG.list ?_
    refine E.GL.run rfl rfl rfl (E.Runs.move rfl rfl) ?_
    refine E.GL.run rfl rfl rfl (E.Runs.not rfl rfl) ?_
    refine E.GL.run rfl rfl rfl (E.Runs.move rfl rfl) ?_
    refine E.GL.run rfl rfl rfl (E.Runs.move rfl rfl) ?_
    refine E.GL.run rfl rfl rfl (E.Runs.move rfl rfl) ?_
    refine E.GL.cmp rfl rfl rfl (fun _ h => (E.Runs.lss rfl rfl rfl h)) (fun h19 => ?_) (fun h19 => ?_)
    · refine E.GL.run rfl rfl rfl (E.Runs.pick_f rfl rfl rfl) ?_
      refine E.GL.done ?_
      refine E.QG.code ?_
      refine E.CG.cond_t rfl ?_
      refine E.CG.list ?_
      refine E.GL.run rfl rfl rfl (E.Runs.move rfl rfl) ?_
      refine E.GL.run rfl rfl rfl (E.Runs.loads (cs := [.int .i64 b.f0, .int .i64 b.f1, .int .i64 b.f2]) rfl rfl hu59 rfl info59s (blk_cells b4)) ?_
      refine E.GL.run rfl rfl rfl (E.Runs.move rfl rfl) ?_
      refine E.GL.sn rfl rfl (E.ST.mapUpdate rfl rfl kBT b rfl rfl hu91 hM fun wQ mQ lQ => ?_)
      replace hG := hG.trans lQ
      replace hM := mQ
      refine E.GL.done ?_
      exact E.QG.result_n0 rfl ⟨rfl, by rw [lst_yes hf h19]; exact hM, hG⟩
    · refine E.GL.run rfl rfl rfl (E.Runs.pick_f rfl rfl rfl) ?_
      refine E.GL.done ?_
      refine E.QG.code ?_
      refine E.CG.cond_f rfl ?_
      refine E.CG.skip ?_
      exact E.QG.result_n0 rfl ⟨rfl, by rw [lst_no hf h19]; exact hM, hG⟩

end Go.Proofs.Ytiplichdhcmjdaa.T
namespace Go.Proofs.Ytiplichdhcmjdaa.T
open Go.RowKit Go.Proofs.YtiplichdhcmjdaaW.PrintWords Go.Proofs.YtiplichdhcmjdaaW.PrintMore
open Go.Proofs.Ytiplichdhcmjdaa.P
set_option linter.unusedVariables false
set_option linter.unusedSimpArgs false
/-- A header of a slice. -/
structure Hd where
  A : Option Addr
  n : Nat
  c : Nat
def Hd.v (h : Hd) : Value := .slice h.A h.n h.c
def kH : Kd Hd := Kd.scalar Hd.v (fun _ => rfl)
/-- A map. -/
def kG : Kd (Option Nat) := Kd.scalar (fun g => Value.map g) (fun _ => rfl)
theorem sc_at {α : Type} {f : α → Value} {hf : ∀ x, (f x).oneCell' = true} {w : World} {A : Option Addr} {n : Nat} {l : List α} (h : Kd.C (Kd.scalar f hf) w A n l) {i : Nat} {x : α} (hi : l[i]? = some x) : ∃ ad, A = some ad ∧ w.cell? (ad.add (i * 1)) = some (f x) := by
  have hil : i < l.length := (List.getElem?_eq_some_iff.1 hi).1
  have hn := Kd.C_len h
  obtain ⟨ad, c, e, _, hK, hc0⟩ := Kd.C_get h x (i : Int) (by omega) (by omega)
  have hx : l.getD i x = x := by simp [List.getD_eq_getElem?_getD, hi]
  rw [Int.toNat_natCast, hx] at hK
  rw [Int.toNat_natCast] at hc0
  obtain rfl : c = [f x] := hK
  exact ⟨ad, e, hc0 0 _ rfl⟩
theorem rowG_at {W : World} {base : Nat} {A : Option Addr} {n c : Nat} {xs : List (Option Nat)} {i : Nat} {x : Option Nat} (R : Kd.R kG 91 W base (fun _ => True) (.slice A n c) xs) (hi : xs[i]? = some x) :
    ∃ g, A = some ⟨g, 0, none⟩ ∧ base ≤ g ∧ W.cell? ⟨g, i * 1, none⟩ = some (.map x) ∧ W.frozen? ⟨g, i * 1, none⟩ = false ∧ (∃ cells, W.heap[g]? = some (.cells cells 91 (0, 0))) ∧
      (∀ y : Option Nat, ∃ w', w' = W.setCell ⟨g, i * 1, none⟩ (.map y) ∧ Kd.R kG 91 w' base (fun _ => True) (.slice A n c) (xs.set i y) ∧ W.grownBy w' (some g)) := by
  have hil := (List.getElem?_eq_some_iff.1 hi).1
  obtain ⟨g, cap, hv, hb, hl, cells, hc⟩ := Kd.R_form R (by omega)
  have hn := (Kd.R_reads' R).1
  injection hv with hA hn' hc'
  subst hA hc'
  obtain ⟨cs, h1, h2, h3, h4⟩ := Kd.R_elem R none (i : Int) (by omega) (by omega)
  have hx : xs.getD i none = x := by simp [List.getD_eq_getElem?_getD, hi]
  rw [Int.toNat_natCast, hx] at h2
  obtain rfl : cs = [.map x] := h2
  rw [Int.toNat_natCast] at h3 h4
  refine ⟨g, rfl, hb, h3 0 _ rfl, h4 0, ⟨cells, hc⟩, fun y => ⟨_, rfl, ?_⟩⟩
  have := Kd.R_seg R (i : Int) (by omega) (by omega) (seg := [.map y]) (j := 0) h1 (by rw [Int.toNat_natCast]; exact h3) (by show 0 + 1 ≤ 1; decide) (x' := y) (okp := fun _ => False) (show kG.M _ _ _ y ([.map y] : List Value) from rfl) (fun _ hk => hk.elim)
  rw [Int.toNat_natCast] at this
  exact this
theorem map_ne {w : World} {gM g t : Nat} {f : Bl → Option Int} {cs : Array Value} (h : MB w gM f) (hb : w.heap[g]? = some (.cells cs t (0, 0))) : gM ≠ g := by
  obtain ⟨es, clock, l, h1, _⟩ := h
  rintro rfl
  rw [h1] at hb
  cases hb
/-- The choices of the first tills, each a row of our own. -/
structure HC (w0 w : World) (V : Ev) (C : List Hd) : Prop where
  row : ∀ (j : Nat) (h : Hd), C[j]? = some h → h.n = (chs V (ct V j)).length ∧ Kd.R k69 69 w w0.heap.size (fun _ => True) h.v (chs V (ct V j))
/-- The maps of some tills. -/
structure HG (w0 w : World) (G : List (Option Nat)) (F : Nat → Bl → Option Int) : Prop where
  mp : ∀ (j g : Nat), G[j]? = some (some g) → w0.heap.size ≤ g ∧ MB w g (F j)
section
variable {w0 w w' : World} {V : Ev} {C : List Hd} {G : List (Option Nat)} {F : Nat → Bl → Option Int} {row : Option Nat}
theorem HC.below (h : HC w0 w V C) (l : Below w.heap.size w w') : HC w0 w' V C := ⟨fun j x hj => ⟨(h.row j x hj).1, Kd.R_below (h.row j x hj).2 l⟩⟩
theorem HG.below (h : HG w0 w G F) (l : Below w.heap.size w w') : HG w0 w' G F := ⟨fun j g hj => ⟨(h.mp j g hj).1, (h.mp j g hj).2.below l⟩⟩
/-- A block of cells of another type is written. -/
def Oth (w : World) (row : Option Nat) : Prop := ∀ k, row = some k → ∃ cs t, w.heap[k]? = some (.cells cs t (0, 0)) ∧ 69 ≠ t
theorem oth {g t : Nat} {cs : Array Value} (h : w.heap[g]? = some (.cells cs t (0, 0))) (ht : 69 ≠ t) : Oth w (some g) := fun k e => by
  injection e with e
  subst e
  exact ⟨cs, t, h, ht⟩
theorem oth_row {α : Type} {d : Kd α} {e base : Nat} {v : Value} {xs : List α} (h : Kd.R d e w base (fun _ => True) v xs) (ht : 69 ≠ e) : Oth w v.ownBlock := fun k ek => by
  obtain ⟨_, inner, ho, _⟩ := h
  obtain ⟨cells, hc⟩ := own_typed ho k ek
  exact ⟨cells, e, hc, ht⟩
theorem HC.grown (h : HC w0 w V C) (hg : w.grownBy w' row) (p : Oth w row) : HC w0 w' V C := ⟨fun j x hj => by
  refine ⟨(h.row j x hj).1, ?_⟩
  have hR := (h.row j x hj).2
  cases row with
  | none => exact Kd.R_mono (Kd.R_grown (Kd.R_tight rfl hR) hg (fun k _ e => by cases e)) (fun _ _ => trivial)
  | some g =>
    obtain ⟨cs, t, hb, ht⟩ := p g rfl
    exact over_blk hR hb ht rfl hg⟩
theorem HG.grown (h : HG w0 w G F) (hg : w.grownBy w' row) (p : Oth w row) : HG w0 w' G F := ⟨fun j g hj => by
  obtain ⟨h1, h2⟩ := h.mp j g hj
  refine ⟨h1, h2.grown hg (fun e => ?_)⟩
  obtain ⟨cs, t, hb, _⟩ := p g e.symm
  exact map_ne h2 hb rfl⟩
theorem HG.mapped (h : HG w0 w G F) {g0 : Nat} (hg : w.grownBy w' (some g0)) (p : ∀ (j : Nat), G[j]? ≠ some (some g0)) : HG w0 w' G F := ⟨fun j g hj => by
  obtain ⟨h1, h2⟩ := h.mp j g hj
  exact ⟨h1, h2.grown hg (fun e => by injection e with e; subst e; exact p j hj)⟩⟩
theorem HC.mapped (h : HC w0 w V C) {g0 : Nat} {f : Bl → Option Int} (hg : w.grownBy w' (some g0)) (hm : MB w g0 f) : HC w0 w' V C := ⟨fun j x hj => by
  refine ⟨(h.row j x hj).1, ?_⟩
  have hR := (h.row j x hj).2
  refine Kd.R_grown1 hR rfl hg (fun e => ?_)
  obtain ⟨_, inner, ho, _⟩ := hR
  obtain ⟨cells, hc⟩ := own_typed ho g0 e.symm
  exact map_ne hm hc rfl⟩
theorem HG.lt (h : HG w0 w G F) {j g : Nat} (hj : G[j]? = some (some g)) : g < w.heap.size := (h.mp j g hj).2.lt
theorem HG.push (h : HG w0 w G F) {g : Nat} {f : Bl → Option Int} (hm : MB w g f) (hb : w0.heap.size ≤ g) : HG w0 w (G ++ [some g]) (fun j => if j < G.length then F j else f) := ⟨fun j k hj => by
  by_cases q : j < G.length
  · rw [List.getElem?_append_left q] at hj
    simp only [q, if_true]
    exact h.mp j k hj
  · rw [List.getElem?_append_right (by omega)] at hj
    have : j - G.length = 0 := by
      by_cases e : j - G.length = 0
      · exact e
      · rw [List.getElem?_eq_none (by simp; omega)] at hj; cases hj
    rw [this] at hj
    obtain rfl : g = k := by simpa using hj
    simp only [q, if_false]
    exact ⟨hb, hm⟩⟩
theorem HC.push (h : HC w0 w V C) {x : Hd} {i : Nat} (hi : C.length = i) (hn : x.n = (chs V (ct V i)).length) (hR : Kd.R k69 69 w w0.heap.size (fun _ => True) x.v (chs V (ct V i))) : HC w0 w V (C ++ [x]) := ⟨fun j y hj => by
  by_cases q : j < C.length
  · rw [List.getElem?_append_left q] at hj
    exact h.row j y hj
  · rw [List.getElem?_append_right (by omega)] at hj
    have e : j - C.length = 0 := by
      by_cases e : j - C.length = 0
      · exact e
      · rw [List.getElem?_eq_none (by simp; omega)] at hj; cases hj
    rw [e] at hj
    obtain rfl : x = y := by simpa using hj
    obtain rfl : j = i := by omega
    exact ⟨hn, hR⟩⟩
theorem HG.at_ (h : HG w0 w G F) (hs : ∀ x ∈ G, x ≠ none) {j : Nat} (hj : j < G.length) : ∃ g, G[j]? = some (some g) ∧ w0.heap.size ≤ g ∧ MB w g (F j) := by
  obtain ⟨x, hx⟩ := get_ex hj
  cases x with
  | none => exact absurd rfl (hs none (List.mem_of_getElem? hx))
  | some g => exact ⟨g, hx, h.mp j g hx⟩
end
/-- While a map is ranged over and another one is filled; wN is the world before the other one was made. -/
structure Lp (wN w : World) (gN r gb : Nat) (fb f : Bl → Option Int) (S : List Bl) (n : Nat) : Prop where
  k : Below wN.heap.size wN w
  it : E.MfI bv evI w r gb fb S n
  mp : MB w gN f
  hr : wN.heap.size ≤ r
  hN : wN.heap.size ≤ gN
  hb : gb < wN.heap.size
theorem Lp.below {wN w w' : World} {gN r gb : Nat} {fb f : Bl → Option Int} {S : List Bl} {n : Nat} (h : Lp wN w gN r gb fb f S n) (l : Below w.heap.size w w') : Lp wN w' gN r gb fb f S n := ⟨below_step h.k l, h.it.below l, h.mp.below l, h.hr, h.hN, h.hb⟩
theorem Lp.ne {wN w : World} {gN r gb : Nat} {fb f : Bl → Option Int} {S : List Bl} {n : Nat} (h : Lp wN w gN r gb fb f S n) : r ≠ gN := by
  obtain ⟨_, _, _, q⟩ := h.it.it
  obtain ⟨es, clock, l, h1, _⟩ := h.mp
  rintro rfl
  rw [q] at h1
  cases h1
theorem Lp.grown {wN w w' : World} {gN r gb g : Nat} {fb f : Bl → Option Int} {S : List Bl} {n : Nat} (h : Lp wN w gN r gb fb f S n) (hg : w.grownBy w' (some g)) (p : wN.heap.size ≤ g ∧ ∃ cs t, w.heap[g]? = some (.cells cs t (0, 0))) : Lp wN w' gN r gb fb f S n := by
  obtain ⟨hs, cs, t, hc⟩ := p
  have h1 : g ≠ r := by
    obtain ⟨_, _, _, q⟩ := h.it.it
    rintro rfl
    rw [q] at hc
    cases hc
  refine ⟨E.below_own h.k hs hg, h.it.grown hg (fun e => ?_) (fun e => ?_), h.mp.grown hg (fun e => ?_), h.hr, h.hN, h.hb⟩
  · injection e with e
    have := h.hb
    omega
  · injection e with e
    exact h1 e.symm
  · injection e with e
    exact map_ne h.mp hc e
theorem Lp.filled {wN w w' : World} {gN r gb : Nat} {fb f f' : Bl → Option Int} {S : List Bl} {n : Nat} (h : Lp wN w gN r gb fb f S n) (hg : w.grownBy w' (some gN)) (hm : MB w' gN f') : Lp wN w' gN r gb fb f' S n :=
  ⟨E.below_own h.k h.hN hg, h.it.grown hg (fun e => by injection e with e; have := h.hb; have := h.hN; omega) (fun e => by injection e with e; exact h.ne e), hm, h.hr, h.hN, h.hb⟩
theorem Lp.stepped {wN w w' : World} {gN r gb : Nat} {fb f : Bl → Option Int} {S S' : List Bl} {n n' : Nat} (h : Lp wN w gN r gb fb f S n) (hg : w.grownBy w' (some r)) (it : E.MfI bv evI w' r gb fb S' n') : Lp wN w' gN r gb fb f S' n' :=
  ⟨E.below_own h.k h.hr hg, it, h.mp.grown hg (fun e => by injection e with e; exact h.ne e.symm), h.hr, h.hN, h.hb⟩
end Go.Proofs.Ytiplichdhcmjdaa.T
namespace Go.Proofs.Ytiplichdhcmjdaa.T
open Go.RowKit Go.Proofs.YtiplichdhcmjdaaW.PrintWords Go.Proofs.YtiplichdhcmjdaaW.PrintMore
open Go.Proofs.Ytiplichdhcmjdaa.P
set_option linter.unusedVariables false
set_option linter.unusedSimpArgs false
structure Lq (wN w : World) (gN r gb : Nat) (fb f : Bl → Option Int) (S : List Bl) (n : Nat) : Prop where
  k : wN.grownBy w (some gN)
  it : E.MfI bv evI w r gb fb S n
  mp : MB w gN f
  hr : wN.heap.size ≤ r
  hN : gN < wN.heap.size
  hb : gb < wN.heap.size
  ne : gb ≠ gN
section
variable {wN w w' : World} {gN r gb : Nat} {fb f : Bl → Option Int} {S : List Bl} {n : Nat}
theorem Lq.below (h : Lq wN w gN r gb fb f S n) (l : Below w.heap.size w w') : Lq wN w' gN r gb fb f S n := ⟨h.k.trans (E.gbB l), h.it.below l, h.mp.below l, h.hr, h.hN, h.hb, h.ne⟩
theorem Lq.grown {g : Nat} (h : Lq wN w gN r gb fb f S n) (hg : w.grownBy w' (some g)) (p : wN.heap.size ≤ g ∧ ∃ cs t, w.heap[g]? = some (.cells cs t (0, 0))) : Lq wN w' gN r gb fb f S n := by
  obtain ⟨hs, cs, t, hc⟩ := p
  have h1 : g ≠ r := by
    obtain ⟨_, _, _, q⟩ := h.it.it
    rintro rfl
    rw [q] at hc
    cases hc
  refine ⟨E.gb_own h.k hs hg, h.it.grown hg (fun e => ?_) (fun e => ?_), h.mp.grown hg (fun e => ?_), h.hr, h.hN, h.hb, h.ne⟩
  · injection e with e
    have := h.hb
    omega
  · injection e with e
    exact h1 e.symm
  · injection e with e
    exact map_ne h.mp hc e
theorem Lq.filled {f' : Bl → Option Int} (h : Lq wN w gN r gb fb f S n) (hg : w.grownBy w' (some gN)) (hm : MB w' gN f') : Lq wN w' gN r gb fb f' S n :=
  ⟨h.k.trans hg, h.it.grown hg (fun e => by injection e with e; exact h.ne e) (fun e => by injection e with e; have := h.hr; have := h.hN; omega), hm, h.hr, h.hN, h.hb, h.ne⟩
theorem Lq.stepped {S' : List Bl} {n' : Nat} (h : Lq wN w gN r gb fb f S n) (hg : w.grownBy w' (some r)) (it : E.MfI bv evI w' r gb fb S' n') : Lq wN w' gN r gb fb f S' n' :=
  ⟨E.gb_own h.k h.hr hg, it, h.mp.grown hg (fun e => by injection e with e; have := h.hr; have := h.hN; omega), h.hr, h.hN, h.hb, h.ne⟩
end
theorem HG.set {w0 w : World} {D : List (Option Nat)} {F : Nat → Bl → Option Int} {i g : Nat} {f : Bl → Option Int} (h : HG w0 w D F) (hm : MB w g f) (hb : w0.heap.size ≤ g) (hi : i < D.length) : HG w0 w (D.set i (some g)) (fun j => if j = i then f else F j) := ⟨fun j k hj => by
  by_cases q : j = i
  · subst q
    rw [List.getElem?_set_self hi] at hj
    obtain rfl : g = k := by simpa using hj
    simp only [if_true]
    exact ⟨hb, hm⟩
  · rw [List.getElem?_set_ne (Ne.symm q)] at hj
    simp only [q, if_false]
    exact h.mp j k hj⟩
/-- The rounds over the choices, for a ticket that is there: with a rest behind it, and with none. -/
theorem na_yes {f fa : Bl → Option Int} {l : List S69} {k : Nat} {o : S69} {x : Bl} {r : Int} {q : Bl → Int → Prop} (ho : l[k]? = some o) (hr : fa (x.add o.b) = some r) (h : ∀ c, Mn (fun y => q c y ∨ (c = x ∧ ∃ o ∈ l.take k, ∃ m, fa (x.add o.b) = some m ∧ y = m + o.f3)) (f c)) (tm : ∀ z, z ∈ l.take (k + 1) ↔ z ∈ l.take k ∨ z = o) : ∀ c, Mn (fun y => q c y ∨ (c = x ∧ ∃ o ∈ l.take (k + 1), ∃ m, fa (x.add o.b) = some m ∧ y = m + o.f3)) (lst f x (r + o.f3) c) := fun c => (lst_mn h c).congr fun y => by
  constructor
  · rintro ((a | ⟨a, o2, b, d⟩) | ⟨rfl, rfl⟩)
    · exact .inl a
    · exact .inr ⟨a, o2, (tm o2).mpr (.inl b), d⟩
    · exact .inr ⟨rfl, o, (tm o).mpr (.inr rfl), r, hr, rfl⟩
  · rintro (a | ⟨a, o2, b, m, d, e⟩)
    · exact .inl (.inl a)
    · rcases (tm o2).mp b with b | rfl
      · exact .inl (.inr ⟨a, o2, b, m, d, e⟩)
      · rw [hr] at d
        cases d
        exact .inr ⟨a, e⟩
theorem na_no {f fa : Bl → Option Int} {l : List S69} {k : Nat} {o : S69} {x : Bl} {q : Bl → Int → Prop} (hr : fa (x.add o.b) = none) (h : ∀ c, Mn (fun y => q c y ∨ (c = x ∧ ∃ o ∈ l.take k, ∃ m, fa (x.add o.b) = some m ∧ y = m + o.f3)) (f c)) (tm : ∀ z, z ∈ l.take (k + 1) ↔ z ∈ l.take k ∨ z = o) : ∀ c, Mn (fun y => q c y ∨ (c = x ∧ ∃ o ∈ l.take (k + 1), ∃ m, fa (x.add o.b) = some m ∧ y = m + o.f3)) (f c) := fun c => (h c).congr fun y => by
  constructor
  · rintro (a | ⟨a, o2, b, d⟩)
    · exact .inl a
    · exact .inr ⟨a, o2, (tm o2).mpr (.inl b), d⟩
  · rintro (a | ⟨a, o2, b, m, d, e⟩)
    · exact .inl a
    · rcases (tm o2).mp b with b | rfl
      · exact .inr ⟨a, o2, b, m, d, e⟩
      · rw [hr] at d
        cases d
theorem na_more {f fa : Bl → Option Int} {S : List Bl} {x : Bl} {l : List S69} {k : Nat} (hk : l.length ≤ k) (h : ∀ c, Mn (fun y => (c ∈ S ∧ ∃ o ∈ l, ∃ m, fa (c.add o.b) = some m ∧ y = m + o.f3) ∨ (c = x ∧ ∃ o ∈ l.take k, ∃ m, fa (x.add o.b) = some m ∧ y = m + o.f3)) (f c)) : ∀ c, Mn (fun y => c ∈ S ++ [x] ∧ ∃ o ∈ l, ∃ m, fa (c.add o.b) = some m ∧ y = m + o.f3) (f c) := fun c => (h c).congr fun y => by
  rw [List.take_of_length_le hk]
  constructor
  · rintro (⟨a, r⟩ | ⟨rfl, r⟩)
    · exact ⟨List.mem_append_left _ a, r⟩
    · exact ⟨by simp, r⟩
  · rintro ⟨a, r⟩
    rcases List.mem_append.mp a with a | a
    · exact .inl ⟨a, r⟩
    · rw [List.mem_singleton] at a
      subst a
      exact .inr ⟨rfl, r⟩
end Go.Proofs.Ytiplichdhcmjdaa.T
