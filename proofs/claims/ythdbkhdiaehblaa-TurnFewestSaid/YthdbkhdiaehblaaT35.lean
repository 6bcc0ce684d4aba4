/- What the reference tells of times, and of who is late; what both texts tell, at whatever input: the walks. -/
import Derived.Test.YthdbkhdiaehblaaT34
import Derived.Laws.StructEq
namespace Go.Proofs.Ythdbkhdiaehblaa.T
open Go.RowKit Go.Proofs.YthdbkhdiaehblaaW.PrintWords Go.Proofs.YthdbkhdiaehblaaW.PrintMore
open Go.Proofs.Ythdbkhdiaehblaa.P
set_option linter.unusedVariables false
set_option linter.unusedSimpArgs false

set_option maxRecDepth 100000 in
theorem equal23 (a b : Int) (W : World) : (Op.equal 23 (.agg #[.int .i64 a, .int .i64 b]) (.agg #[.int .i64 a, .int .i64 b])).run Try.prog W = .ok true W := by
  have hu3 := Try.underlying3
  have hu23 := Try.underlying23
  have h23 := Try.stoodInHeld23
  unfold Op.equal Op.maxDepth
  go_simp
set_option maxRecDepth 100000 in
theorem equal36 (s : S36) (W : World) : (Op.equal 36 (sv s) (sv s)).run Try.prog W = .ok true W := by
  have hu3 := Try.underlying3
  have hu23 := Try.underlying23
  have hu36 := Try.underlying36
  have h23 := Try.stoodInHeld23
  have h36 := Try.stoodInHeld36
  unfold Op.equal Op.maxDepth
  go_simp
set_option maxRecDepth 100000 in
theorem equal34 (a b c d e f g h i j : Int) (W : World) : (Op.equal 34 (.agg #[.int .i64 a, .int .i64 b, .int .i64 c, .int .i64 d, .int .i64 e, .int .i64 f, .int .i64 g, .int .i64 h, .int .i64 i, .int .i64 j]) (.agg #[.int .i64 a, .int .i64 b, .int .i64 c, .int .i64 d, .int .i64 e, .int .i64 f, .int .i64 g, .int .i64 h, .int .i64 i, .int .i64 j])).run Try.prog W = .ok true W := by
  have hu3 := Try.underlying3
  have hu23 := Try.underlying23
  have hu34 := Try.underlying34
  have h23 := Try.stoodInHeld23
  have h34 := Try.stoodInHeld34
  unfold Op.equal Op.maxDepth
  go_simp
set_option maxRecDepth 100000 in
theorem build34 (a b c d e f g h i j : Int) (W : World) : (Instr.build 34 #[(0, .agg #[.int .i64 a, .int .i64 b]), (1, .agg #[.int .i64 c, .int .i64 d]), (2, .agg #[.int .i64 e, .int .i64 f]), (3, .agg #[.int .i64 g, .int .i64 h]), (4, .agg #[.int .i64 i, .int .i64 j])]).run Try.prog W = .ok (.agg #[.int .i64 a, .int .i64 b, .int .i64 c, .int .i64 d, .int .i64 e, .int .i64 f, .int .i64 g, .int .i64 h, .int .i64 i, .int .i64 j]) W := by
  have hu3 := Try.underlying3
  have hu23 := Try.underlying23
  have hu34 := Try.underlying34
  go_simp
set_option maxRecDepth 100000 in
theorem lit34 (t u : Tm) (W : World) : (Instr.buildSlice 29 1 #[(0, .agg #[.int .i64 t.enter, .int .i64 u.enter, .int .i64 t.seated, .int .i64 u.seated, .int .i64 t.start, .int .i64 u.start, .int .i64 t.empty, .int .i64 u.empty, .int .i64 t.ready, .int .i64 u.ready])]).run Try.prog W = .ok (.slice (some ⟨W.heap.size, 0, none⟩) 1 1) (W.alloc (.cells #[.int .i64 t.enter, .int .i64 u.enter, .int .i64 t.seated, .int .i64 u.seated, .int .i64 t.start, .int .i64 u.start, .int .i64 t.empty, .int .i64 u.empty, .int .i64 t.ready, .int .i64 u.ready] 34 (0, 0))) := by
  have hu29 := Try.underlying29
  go_simp
set_option maxRecDepth 100000 in
theorem build23z (W : World) : (Instr.build 23 #[]).run Try.prog W = .ok (.agg #[.int .i64 0, .int .i64 0]) W := by
  have hu3 := Try.underlying3
  have hu23 := Try.underlying23
  go_simp

theorem waitSum_ra {p q : Pc} (h : p.ra = q.ra) (H : Hs) (m : Int) : ∀ (l : List S36) (ts : List Tm), waitSum p H m l ts = waitSum q H m l ts
  | [], _ => by simp [waitSum]
  | s :: l, [] => by simp [waitSum]
  | s :: l, t :: ts => by simp only [waitSum, waitOne, h, waitSum_ra h H m l ts]
theorem items_L (H : Hs) (l : List S36) : items l (l.map fun s => s.f2.f1) (l.map fun _ => H.ch) = l.map (itOf (pcL H)) := items_map _ _ l
theorem items_E (H : Hs) (l : List S36) : items l (l.map fun s => s.f2.f0) (l.map fun _ => H.cl) = l.map (itOf (pcE H)) := items_map _ _ l
/-- The first minutes of a day, as all of them are told. -/
abbrev earlyDay (H : Hs) (l : List S36) : List Tm := allT (pcE H) H (dayAt 6 4) l
theorem day_L {H : Hs} {l : List S36} (h : Valid H l) : dayT (⟨H.dl, H.walk, H.early⟩ : Rt) (items l (l.map fun s => s.f2.f1) (l.map fun _ => H.ch)) = lateDay H l := by
  rw [items_L, lateDay, allL_is h.1 (valid_slots h)]
  rfl
theorem day_E {H : Hs} {l : List S36} (h : Valid H l) : dayT (⟨H.dh, H.walk, H.early⟩ : Rt) (items l (l.map fun s => s.f2.f0) (l.map fun _ => H.cl)) = earlyDay H l := by
  rw [items_E, earlyDay, allE_is h.1 (valid_slots h)]
  rfl
theorem it_L {H : Hs} {l : List S36} (h : Valid H l) : ∀ x ∈ items l (l.map fun s => s.f2.f1) (l.map fun _ => H.ch), ItOk x := by
  rw [items_L]
  intro x hx
  obtain ⟨y, hy, rfl⟩ := List.mem_map.mp hx
  exact itL h.1 (valid_slots h y hy)
theorem it_E {H : Hs} {l : List S36} (h : Valid H l) : ∀ x ∈ items l (l.map fun s => s.f2.f0) (l.map fun _ => H.cl), ItOk x := by
  rw [items_E]
  intro x hx
  obtain ⟨y, hy, rfl⟩ := List.mem_map.mp hx
  exact itE h.1 (valid_slots h y hy)
theorem run_late (H : Hs) (l : List S36) (A1 Ar Ac : Option Addr) (c1 cr cc : Nat) (w : World) (h : Valid H l) (hr : Kd.C k36 w A1 l.length l) (hc : l.length ≤ c1) (hR : Kd.C kI w Ar l.length (l.map fun s => s.f2.f1)) (hC : Kd.C kI w Ac l.length (l.map fun _ => H.ch)) :
    Calls Try.prog 24 #[hv H, .slice A1 l.length c1, .agg #[.slice Ar l.length cr, .slice Ac l.length cc, .int .i64 H.dl]] w fun e w' => ∃ A c, e = .returned (.slice A l.length c) ∧ l.length ≤ c ∧ Kd.C kTm w' A l.length (lateDay H l) ∧ Below w.heap.size w w' := by
  have := run_row H l _ _ H.dl A1 Ar Ac c1 cr cc w (by have := h.2.1; omega) (rtL h.1) (it_L h) hr hc hR hC
  rw [day_L h] at this
  exact this
theorem run_early (H : Hs) (l : List S36) (A1 Ar Ac : Option Addr) (c1 cr cc : Nat) (w : World) (h : Valid H l) (hr : Kd.C k36 w A1 l.length l) (hc : l.length ≤ c1) (hR : Kd.C kI w Ar l.length (l.map fun s => s.f2.f0)) (hC : Kd.C kI w Ac l.length (l.map fun _ => H.cl)) :
    Calls Try.prog 24 #[hv H, .slice A1 l.length c1, .agg #[.slice Ar l.length cr, .slice Ac l.length cc, .int .i64 H.dh]] w fun e w' => ∃ A c, e = .returned (.slice A l.length c) ∧ l.length ≤ c ∧ Kd.C kTm w' A l.length (earlyDay H l) ∧ Below w.heap.size w w' := by
  have := run_row H l _ _ H.dh A1 Ar Ac c1 cr cc w (by have := h.2.1; omega) (rtE h.1) (it_E h) hr hc hR hC
  rw [day_E h] at this
  exact this
set_option maxRecDepth 100000 in
set_option maxHeartbeats 8000000 in

theorem late_r (H : Hs) (l : List S36) (A1 : Option Addr) (c1 : Nat) (w : World) (h : Valid H l) (hr : Kd.C k36 w A1 l.length l) (hc : l.length ≤ c1) :
    Calls Try.prog 56 #[hv H, .slice A1 l.length c1] w fun e w' => e = .returned (.tuple #[.int .i64 (lateT l (lateDay H l) 0).1, .int .i64 (lateT l (lateDay H l) 0).2]) ∧ Below w.heap.size w w' := by
  have hu3 := Try.underlying3
  have hu25 := Try.underlying25
  have hu26 := Try.underlying26
  have hu36 := Try.underlying36
  have hu53 := Try.underlying53
  have hu56 := Try.underlying56
  obtain ⟨z3, o3⟩ := info_some info3s (by decide)
  obtain ⟨z36, o36⟩ := info_some info36s (by decide)
  obtain ⟨z56, o56⟩ := info_some info56s (by decide)
  have hn := h.2.1
  refine E.enter (N := 43) Try.func56 rfl Try.ntmps56 (args := [hv H, .slice A1 l.length c1]) (by simp) ?_
  have L := Below.refl w.heap.size w
  refine E.CG.seq ?_
  refine E.CG.list ?_
  refine E.GL.st rfl rfl rfl (E.ST.box rfl rfl fun g2 w2 e2 b2 l2 => ?_)
  have h2_L : w.heap.size ≤ g2 := by rw [e2]; exact L.size
  replace L := below_step L l2
  refine E.GL.run rfl rfl rfl (E.Runs.assign rfl rfl) ?_
  refine E.GL.run rfl rfl rfl (E.Runs.assign rfl rfl) ?_
  refine E.GL.done ?_
  refine E.QG.code ?_
  refine E.CG.seq ?_
  refine E.CG.heldH (none) (by kernel_rfl) fun v1 lD hh => ?_
  replace b2 := blk_below b2 lD
  replace L := below_step L lD
  clear lD
  have s_b2 := b2
  have s_L := L
  refine E.GH.take (i := 0) rfl (by kernel_rfl) (by kernel_rfl) (by kernel_rfl) (by intro c a d v w h; cases d <;> exact h) rfl rfl rfl (fun w' hS => (E.Runs.loads (cs := [.int .i64 H.teams, .int .i64 H.walk, .int .i64 H.early, .int .i64 H.foyer, .int .i64 H.dl, .int .i64 H.dh, .int .i64 H.cl, .int .i64 H.ch]) rfl rfl hu25 rfl info25s (blk_cells (blk_grown s_b2 hS E.nen)))) ?_
  refine E.GH.take (i := 1) rfl (by kernel_rfl) (by kernel_rfl) (by kernel_rfl) (by intro c a d v w h; cases d <;> exact h) rfl rfl rfl (fun w' hS => (E.Runs.move rfl rfl)) ?_
  refine E.GH.take (i := 2) rfl (by kernel_rfl) (by kernel_rfl) (by kernel_rfl) (by intro c a d v w h; cases d <;> exact h) rfl rfl rfl (fun w' hS => (E.Runs.loads (cs := [.int .i64 H.teams, .int .i64 H.walk, .int .i64 H.early, .int .i64 H.foyer, .int .i64 H.dl, .int .i64 H.dh, .int .i64 H.cl, .int .i64 H.ch]) rfl rfl hu25 rfl info25s (blk_cells (blk_grown s_b2 hS E.nen)))) ?_
  refine E.GH.take (i := 3) rfl (by kernel_rfl) (by kernel_rfl) (by kernel_rfl) (by intro c a d v w h; cases d <;> exact h) rfl rfl rfl (fun w' hS => (E.Runs.move rfl rfl)) ?_
  refine E.GH.one (i := 4) (by kernel_rfl) rfl ?_
  refine E.GO.st rfl rfl rfl (E.ST.call rfl ent50 (E.evc rfl (E.evc rfl (E.evc rfl E.evn))) ((bound_late H l A1 c1 _ (by omega) (Kd.C_below hr L) hc).mono ?_))
  rintro e w12 ⟨Ar1, cr1, Ac1, cc1, rfl, C1, D1, l12⟩
  refine ⟨_, rfl, hh.trans (E.gbB l12), ?_⟩
  replace hh := hh.trans (E.gbB l12)
  replace b2 := blk_below b2 l12
  replace L := below_step L l12
  refine E.GH.one (i := 5) (by kernel_rfl) rfl ?_
  refine E.GO.st rfl rfl rfl (E.ST.call rfl ent24 (E.evc rfl (E.evc rfl (E.evc rfl E.evn))) ((run_late H l A1 Ar1 Ac1 c1 cr1 cc1 _ h (Kd.C_below hr L) hc C1 D1).mono ?_))
  rintro e w13 ⟨Ae, ce, rfl, ke, re, l13⟩
  refine ⟨_, rfl, hh.trans (E.gbB l13), ?_⟩
  replace hh := hh.trans (E.gbB l13)
  replace b2 := blk_below b2 l13
  replace L := below_step L l13
  refine E.GH.take (i := 6) rfl (by kernel_rfl) (by kernel_rfl) (by kernel_rfl) (by intro c a d v w h; cases d <;> exact h) rfl rfl rfl (fun w' hS => (E.Runs.assign rfl rfl)) ?_
  refine E.GH.done (by kernel_rfl) ?_
  refine E.QG.code ?_
  refine E.CG.seq ?_
  refine E.CG.seq ?_
  refine E.CG.list ?_
  refine E.GL.run rfl rfl rfl (E.Runs.assign rfl rfl) ?_
  refine E.GL.done ?_
  refine E.QG.code ?_
  refine E.CG.block ?_
  have s3_b2 := b2
  have s3_L := L
  refine E.CG.loop (fun (k : Nat) => [(1, .slice A1 l.length c1), (6, .slice Ae l.length ce), (7, .int .i64 k)]) (fun k w' => k ≤ l.length ∧ Below w13.heap.size w13 w' ∧ lateT l (lateDay H l) 0 = lateT (l.drop k) ((lateDay H l).drop k) k) (fun k => l.length - k) 0 (E.subc rfl (E.subc rfl (E.subc rfl (E.subn)))) ⟨Nat.zero_le _, Below.refl _ _, rfl⟩ ?_
  rintro k w3 ⟨hk, lq, hq⟩
  replace L := below_step L lq
  refine E.CG.seq ?_
  refine E.CG.seq ?_
  refine E.CG.list ?_
  refine E.GL.run rfl rfl rfl (E.Runs.move rfl rfl) ?_
  refine E.GL.run rfl rfl rfl (E.Runs.move rfl rfl) ?_
  refine E.GL.run rfl rfl rfl (E.Runs.len rfl rfl hu26) ?_
  refine E.GL.cmp rfl rfl rfl (fun _ h => (E.Runs.lss rfl rfl rfl h)) (fun h17 => ?_) (fun h17 => ?_)
  · have hlt : k < l.length := by omega
    obtain ⟨s, hs⟩ : ∃ s, l[k]? = some s := ⟨_, List.getElem?_eq_getElem hlt⟩
    obtain ⟨t, ht⟩ : ∃ t, (lateDay H l)[k]? = some t := ⟨_, List.getElem?_eq_getElem (by rw [allT_length]; exact hlt)⟩
    obtain ⟨ae, eB, T⟩ := tm_at re ht
    obtain ⟨ad, eA, S⟩ := slot_at hr hs
    have bd := late_bound h hs ht
    refine E.GL.done ?_
    refine E.QG.code ?_
    refine E.CG.cond_t rfl ?_
    refine E.CG.skip ?_
    refine E.QG.code ?_
    refine E.CG.seq ?_
    refine E.CG.block ?_
    refine E.CG.seq ?_
    refine E.CG.quietF (by kernel_rfl) rfl (by kernel_rfl) (by kernel_rfl) ?_
    refine E.GQ.run rfl rfl rfl (E.Runs.move rfl rfl) ?_
    refine E.GQ.run rfl rfl rfl (E.Runs.move rfl rfl) ?_
    refine E.GQ.run rfl rfl rfl (E.Runs.indexAddrA rfl rfl rfl hu53 (by assumption) (by assumption) (by assumption) (by first | rfl | assumption) rfl) ?_
    refine E.GQ.run rfl rfl rfl (E.Runs.fieldAddr rfl rfl hu56 rfl (by assumption) rfl) ?_
    refine E.GQ.run rfl rfl rfl (E.Runs.load rfl rfl hu3 (by first | assumption | exact E.blkc (by assumption) rfl | exact pw_cell_below L (by assumption) | exact pw_cell_below lq (by assumption) | exact pw_cell_below L S.c0 | exact pw_cell_below L S.c1 | exact pw_cell_below L S.c2 | exact pw_cell_below L S.c3 | exact pw_cell_below L S.c4 | exact pw_cell_below L S.c5 | exact pw_cell_below lq T.c0 | exact pw_cell_below lq T.c1 | exact pw_cell_below lq T.c2 | exact pw_cell_below lq T.c3 | exact pw_cell_below lq T.c4)) ?_
    refine E.GQ.run rfl rfl rfl (E.Runs.move rfl rfl) ?_
    refine E.GQ.run rfl rfl rfl (E.Runs.move rfl rfl) ?_
    refine E.GQ.run rfl rfl rfl (E.Runs.indexAddrA rfl rfl rfl hu26 (by assumption) (by assumption) (by assumption) (by first | rfl | assumption) rfl) ?_
    refine E.GQ.run rfl rfl rfl (E.Runs.fieldAddr rfl rfl hu36 rfl (by assumption) rfl) ?_
    refine E.GQ.run rfl rfl rfl (E.Runs.load rfl rfl hu3 (by first | assumption | exact E.blkc (by assumption) rfl | exact pw_cell_below L (by assumption) | exact pw_cell_below lq (by assumption) | exact pw_cell_below L S.c0 | exact pw_cell_below L S.c1 | exact pw_cell_below L S.c2 | exact pw_cell_below L S.c3 | exact pw_cell_below L S.c4 | exact pw_cell_below L S.c5 | exact pw_cell_below lq T.c0 | exact pw_cell_below lq T.c1 | exact pw_cell_below lq T.c2 | exact pw_cell_below lq T.c3 | exact pw_cell_below lq T.c4)) ?_
    refine E.GQ.cmp rfl rfl rfl (fun _ h => (E.Runs.gtr rfl rfl rfl h)) (fun h30 => ?_) (fun h30 => ?_)
    · refine E.GQ.doneB fun v5 lD => ?_
      replace L := below_step L lD
      replace lq := below_step lq lD
      clear lD
      refine E.QG.code ?_
      refine E.CG.cond_t rfl ?_
      refine E.CG.seq ?_
      refine E.CG.quietF (by kernel_rfl) rfl (by kernel_rfl) (by kernel_rfl) ?_
      refine E.GQ.run rfl rfl rfl (E.Runs.move rfl rfl) ?_
      refine E.GQ.run rfl rfl rfl (E.Runs.move rfl rfl) ?_
      refine E.GQ.run rfl rfl rfl (E.Runs.move rfl rfl) ?_
      refine E.GQ.run rfl rfl rfl (E.Runs.indexAddrA rfl rfl rfl hu53 (by assumption) (by assumption) (by assumption) (by first | rfl | assumption) rfl) ?_
      refine E.GQ.run rfl rfl rfl (E.Runs.fieldAddr rfl rfl hu56 rfl (by assumption) rfl) ?_
      refine E.GQ.run rfl rfl rfl (E.Runs.load rfl rfl hu3 (by first | assumption | exact E.blkc (by assumption) rfl | exact pw_cell_below L (by assumption) | exact pw_cell_below lq (by assumption) | exact pw_cell_below L S.c0 | exact pw_cell_below L S.c1 | exact pw_cell_below L S.c2 | exact pw_cell_below L S.c3 | exact pw_cell_below L S.c4 | exact pw_cell_below L S.c5 | exact pw_cell_below lq T.c0 | exact pw_cell_below lq T.c1 | exact pw_cell_below lq T.c2 | exact pw_cell_below lq T.c3 | exact pw_cell_below lq T.c4)) ?_
      refine E.GQ.run rfl rfl rfl (E.Runs.move rfl rfl) ?_
      refine E.GQ.run rfl rfl rfl (E.Runs.move rfl rfl) ?_
      refine E.GQ.run rfl rfl rfl (E.Runs.indexAddrA rfl rfl rfl hu26 (by assumption) (by assumption) (by assumption) (by first | rfl | assumption) rfl) ?_
      refine E.GQ.run rfl rfl rfl (E.Runs.fieldAddr rfl rfl hu36 rfl (by assumption) rfl) ?_
      refine E.GQ.run rfl rfl rfl (E.Runs.load rfl rfl hu3 (by first | assumption | exact E.blkc (by assumption) rfl | exact pw_cell_below L (by assumption) | exact pw_cell_below lq (by assumption) | exact pw_cell_below L S.c0 | exact pw_cell_below L S.c1 | exact pw_cell_below L S.c2 | exact pw_cell_below L S.c3 | exact pw_cell_below L S.c4 | exact pw_cell_below L S.c5 | exact pw_cell_below lq T.c0 | exact pw_cell_below lq T.c1 | exact pw_cell_below lq T.c2 | exact pw_cell_below lq T.c3 | exact pw_cell_below lq T.c4)) ?_
      refine E.GQ.run rfl rfl rfl (E.Runs.sub rfl rfl rfl (IntWalk.i64_in _ (by omega))) ?_
      refine E.GQ.run rfl rfl rfl (E.Runs.assign rfl rfl) ?_
      refine E.GQ.run rfl rfl rfl (E.Runs.assign rfl rfl) ?_
      refine E.GQ.doneB fun v6 lD => ?_
      replace L := below_step L lD
      replace lq := below_step lq lD
      clear lD
      refine E.QG.code ?_
      refine E.CG.ret ?_
      refine E.QG.block_ret ?_
      refine E.QG.pass_ret ?_
      refine E.QG.pass_ret ?_
      refine E.QG.block_ret ?_
      refine E.QG.pass_ret ?_
      exact E.QG.result2 rfl rfl rfl ⟨by rw [hq, lateT_step hs ht, if_pos h30], L⟩
    · refine E.GQ.doneB fun v5 lD => ?_
      replace L := below_step L lD
      replace lq := below_step lq lD
      clear lD
      refine E.QG.code ?_
      refine E.CG.cond_f rfl ?_
      refine E.CG.skip ?_
      refine E.QG.block_normal ?_
      refine E.QG.code ?_
      refine E.CG.list ?_
      refine E.GL.run rfl rfl rfl (E.Runs.move rfl rfl) ?_
      refine E.GL.run rfl rfl rfl (E.Runs.add rfl rfl rfl (IntWalk.i64_in _ (by omega))) ?_
      refine E.GL.run rfl rfl rfl (E.Runs.assign rfl rfl) ?_
      refine E.GL.done ?_
      exact E.QG.round (k + 1) (E.subc rfl (E.subc rfl (E.subc rfl E.subn))) ⟨by omega, lq, by rw [hq, lateT_step hs ht, if_neg h30]; rfl⟩ (by omega)
  · refine E.GL.done ?_
    refine E.QG.code ?_
    refine E.CG.cond_f rfl ?_
    refine E.CG.exit ?_
    refine E.QG.pass_exit ?_
    refine E.QG.pass_exit ?_
    refine E.QG.block_here ?_
    refine E.QG.code ?_
    refine E.CG.seq ?_
    refine E.CG.list ?_
    refine E.GL.run rfl rfl rfl (E.Runs.assign rfl rfl) ?_
    refine E.GL.run rfl rfl rfl (E.Runs.assign rfl rfl) ?_
    refine E.GL.done ?_
    refine E.QG.code ?_
    refine E.CG.ret ?_
    exact E.QG.result2 rfl rfl rfl ⟨by rw [hq, List.drop_eq_nil_of_le (by omega)]; rfl, L⟩

open Classical in
/-- What both texts tell of who is late. -/
noncomputable def lateE (H : Hs) (l : List S36) : Int × Int × Int := if checkE H l = 0 then ((lateT l (lateDay H l) 0).1, (lateT l (lateDay H l) 0).2, 0) else (0, 0, checkE H l)
/-- What both texts tell of the times. -/
noncomputable def timesE (H : Hs) (l : List S36) : List S34 := if checkE H l = 0 then moments H l else []
noncomputable def waitE (H : Hs) (l : List S36) (m : Int) : Int × Int × Int := if checkE H l = 0 then (if 0 ≤ m ∧ m ≤ 9999 then (waitT (pcE H) H l m, waitT (pcL H) H l m, 0) else (0, 0, 1)) else (0, 0, checkE H l)
noncomputable def crowdE (H : Hs) (l : List S36) : Int × Int := if checkE H l = 0 then (crowdT H l l, 0) else (0, checkE H l)
set_option maxRecDepth 100000 in
set_option maxHeartbeats 8000000 in

theorem late_ref (H : Hs) (l : List S36) (A1 : Option Addr) (c1 : Nat) (w : World) (hl : l.length ≤ 1000000000000) (hr : Kd.C k36 w A1 l.length l) (hc : l.length ≤ c1) :
    Calls Try.prog 31 #[hv H, .slice A1 l.length c1] w fun e w' => e = .returned (.tuple #[.int .i64 (lateE H l).1, .int .i64 (lateE H l).2.1, .int .i64 (lateE H l).2.2]) ∧ Below w.heap.size w w' := by
  have hu3 := Try.underlying3
  have hu25 := Try.underlying25
  have hu26 := Try.underlying26
  refine E.enter (N := 22) Try.func31 rfl Try.ntmps31 (args := [hv H, .slice A1 l.length c1]) (by simp) ?_
  have L := Below.refl w.heap.size w
  refine E.CG.seq ?_
  refine E.CG.list ?_
  refine E.GL.st rfl rfl rfl (E.ST.box rfl rfl fun g2 w2 e2 b2 l2 => ?_)
  have h2_L : w.heap.size ≤ g2 := by rw [e2]; exact L.size
  replace L := below_step L l2
  refine E.GL.run rfl rfl rfl (E.Runs.assign rfl rfl) ?_
  refine E.GL.run rfl rfl rfl (E.Runs.assign rfl rfl) ?_
  refine E.GL.run rfl rfl rfl (E.Runs.assign rfl rfl) ?_
  refine E.GL.done ?_
  refine E.QG.code ?_
  refine E.CG.seq ?_
  refine E.CG.seq ?_
  refine E.CG.list ?_
  refine E.GL.run rfl rfl rfl (E.Runs.loads (cs := [.int .i64 H.teams, .int .i64 H.walk, .int .i64 H.early, .int .i64 H.foyer, .int .i64 H.dl, .int .i64 H.dh, .int .i64 H.cl, .int .i64 H.ch]) rfl rfl hu25 rfl info25s (blk_cells b2)) ?_
  refine E.GL.run rfl rfl rfl (E.Runs.move rfl rfl) ?_
  refine E.GL.st rfl rfl rfl (E.ST.call rfl ent19 (E.evc rfl (E.evc rfl E.evn)) ((check_ref H l A1 c1 _ hl (Kd.C_below hr L) hc).mono ?_))
  rintro e w10 ⟨rfl, l10⟩
  refine ⟨_, rfl, ?_⟩
  replace b2 := blk_below b2 l10
  replace L := below_step L l10
  refine E.GL.run rfl rfl rfl (E.Runs.assign rfl rfl) ?_
  refine E.GL.done ?_
  refine E.QG.code ?_
  refine E.CG.seq ?_
  refine E.CG.list ?_
  refine E.GL.run rfl rfl rfl (E.Runs.move rfl rfl) ?_
  refine E.GL.cmpn rfl rfl rfl (fun _ h => (E.Runs.neq rfl rfl rfl h)) (fun h12 => ?_) (fun h12 => ?_)
  · refine E.GL.done ?_
    refine E.QG.code ?_
    refine E.CG.cond_t rfl ?_
    refine E.CG.seq ?_
    refine E.CG.list ?_
    refine E.GL.run rfl rfl rfl (E.Runs.move rfl rfl) ?_
    refine E.GL.run rfl rfl rfl (E.Runs.assign rfl rfl) ?_
    refine E.GL.run rfl rfl rfl (E.Runs.assign rfl rfl) ?_
    refine E.GL.run rfl rfl rfl (E.Runs.assign rfl rfl) ?_
    refine E.GL.done ?_
    refine E.QG.code ?_
    refine E.CG.ret ?_
    refine E.QG.pass_ret ?_
    exact E.QG.result3 rfl rfl rfl rfl ⟨by simp only [lateE, if_neg h12], L⟩
  · refine E.GL.done ?_
    refine E.QG.code ?_
    refine E.CG.cond_f rfl ?_
    refine E.CG.skip ?_
    refine E.QG.code ?_
    refine E.CG.seq ?_
    refine E.CG.list ?_
    refine E.GL.run rfl rfl rfl (E.Runs.loads (cs := [.int .i64 H.teams, .int .i64 H.walk, .int .i64 H.early, .int .i64 H.foyer, .int .i64 H.dl, .int .i64 H.dh, .int .i64 H.cl, .int .i64 H.ch]) rfl rfl hu25 rfl info25s (blk_cells b2)) ?_
    refine E.GL.run rfl rfl rfl (E.Runs.move rfl rfl) ?_
    refine E.GL.st rfl rfl rfl (E.ST.call rfl ent56 (E.evc rfl (E.evc rfl E.evn)) ((late_r H l A1 c1 _ ((checkE_valid H l).mp h12) (Kd.C_below hr L) hc).mono ?_))
    rintro e w17 ⟨rfl, l17⟩
    refine ⟨_, rfl, ?_⟩
    replace b2 := blk_below b2 l17
    replace L := below_step L l17
    refine E.GL.run rfl rfl rfl (E.Runs.move rfl rfl) ?_
    refine E.GL.run rfl rfl rfl (E.Runs.extract rfl rfl rfl) ?_
    refine E.GL.run rfl rfl rfl (E.Runs.extract rfl rfl rfl) ?_
    refine E.GL.run rfl rfl rfl (E.Runs.assign rfl rfl) ?_
    refine E.GL.run rfl rfl rfl (E.Runs.assign rfl rfl) ?_
    refine E.GL.done ?_
    refine E.QG.code ?_
    refine E.CG.seq ?_
    refine E.CG.list ?_
    refine E.GL.run rfl rfl rfl (E.Runs.move rfl rfl) ?_
    refine E.GL.run rfl rfl rfl (E.Runs.move rfl rfl) ?_
    refine E.GL.run rfl rfl rfl (E.Runs.assign rfl rfl) ?_
    refine E.GL.run rfl rfl rfl (E.Runs.assign rfl rfl) ?_
    refine E.GL.run rfl rfl rfl (E.Runs.assign rfl rfl) ?_
    refine E.GL.done ?_
    refine E.QG.code ?_
    refine E.CG.ret ?_
    exact E.QG.result3 rfl rfl rfl rfl ⟨by simp only [lateE, if_pos h12]; rfl, L⟩

set_option maxRecDepth 100000 in
set_option maxHeartbeats 8000000 in

theorem late_bad (H : Hs) (l : List S36) (A1 : Option Addr) (c1 : Nat) (w : World) (hl : l.length ≤ 1000000000000) (hr : Kd.C k36 w A1 l.length l) (hc : l.length ≤ c1) (hne : ¬ checkE H l = 0) :
    Calls Try.prog 23 #[hv H, .slice A1 l.length c1] w fun e w' => e = .returned (.tuple #[.int .i64 0, .int .i64 0, .int .i64 (checkE H l)]) ∧ Below w.heap.size w w' := by
  have hu25 := Try.underlying25
  have hu26 := Try.underlying26
  refine E.enter (N := 45) Try.func23 rfl Try.ntmps23 (args := [hv H, .slice A1 l.length c1]) (by simp) ?_
  have L := Below.refl w.heap.size w
  refine E.CG.seq ?_
  refine E.CG.list ?_
  refine E.GL.st rfl rfl rfl (E.ST.box rfl rfl fun g2 w2 e2 b2 l2 => ?_)
  have h2_L : w.heap.size ≤ g2 := by rw [e2]; exact L.size
  replace L := below_step L l2
  refine E.GL.run rfl rfl rfl (E.Runs.assign rfl rfl) ?_
  refine E.GL.run rfl rfl rfl (E.Runs.assign rfl rfl) ?_
  refine E.GL.run rfl rfl rfl (E.Runs.assign rfl rfl) ?_
  refine E.GL.done ?_
  refine E.QG.code ?_
  refine E.CG.seq ?_
  refine E.CG.seq ?_
  refine E.CG.list ?_
  refine E.GL.run rfl rfl rfl (E.Runs.loads (cs := [.int .i64 H.teams, .int .i64 H.walk, .int .i64 H.early, .int .i64 H.foyer, .int .i64 H.dl, .int .i64 H.dh, .int .i64 H.cl, .int .i64 H.ch]) rfl rfl hu25 rfl info25s (blk_cells b2)) ?_
  refine E.GL.run rfl rfl rfl (E.Runs.move rfl rfl) ?_
  refine E.GL.st rfl rfl rfl (E.ST.call rfl ent29 (E.evc rfl (E.evc rfl E.evn)) ((check_calls H l A1 c1 _ hl (Kd.C_below hr L) hc).mono ?_))
  rintro e w12 ⟨rfl, l12⟩
  refine ⟨_, rfl, ?_⟩
  replace b2 := blk_below b2 l12
  replace L := below_step L l12
  refine E.GL.run rfl rfl rfl (E.Runs.assign rfl rfl) ?_
  refine E.GL.done ?_
  refine E.QG.code ?_
  refine E.CG.seq ?_
  refine E.CG.list ?_
  refine E.GL.run rfl rfl rfl (E.Runs.move rfl rfl) ?_
  refine E.GL.run rfl rfl rfl (E.Runs.neq rfl rfl rfl (E.ne_t hne)) ?_
  refine E.GL.done ?_
  refine E.QG.code ?_
  refine E.CG.cond_t rfl ?_
  refine E.CG.seq ?_
  refine E.CG.list ?_
  refine E.GL.run rfl rfl rfl (E.Runs.move rfl rfl) ?_
  refine E.GL.run rfl rfl rfl (E.Runs.assign rfl rfl) ?_
  refine E.GL.run rfl rfl rfl (E.Runs.assign rfl rfl) ?_
  refine E.GL.run rfl rfl rfl (E.Runs.assign rfl rfl) ?_
  refine E.GL.done ?_
  refine E.QG.code ?_
  refine E.CG.ret ?_
  refine E.QG.pass_ret ?_
  exact E.QG.result3 rfl rfl rfl rfl ⟨rfl, L⟩

set_option maxRecDepth 100000 in
set_option maxHeartbeats 8000000 in

theorem crowded_bad (H : Hs) (l : List S36) (A1 : Option Addr) (c1 : Nat) (w : World) (hl : l.length ≤ 1000000000000) (hr : Kd.C k36 w A1 l.length l) (hc : l.length ≤ c1) (hne : ¬ checkE H l = 0) :
    Calls Try.prog 27 #[hv H, .slice A1 l.length c1] w fun e w' => e = .returned (.tuple #[.int .i64 0, .int .i64 (checkE H l)]) ∧ Below w.heap.size w w' := by
  have hu25 := Try.underlying25
  have hu26 := Try.underlying26
  refine E.enter (N := 36) Try.func27 rfl Try.ntmps27 (args := [hv H, .slice A1 l.length c1]) (by simp) ?_
  have L := Below.refl w.heap.size w
  refine E.CG.seq ?_
  refine E.CG.list ?_
  refine E.GL.st rfl rfl rfl (E.ST.box rfl rfl fun g2 w2 e2 b2 l2 => ?_)
  have h2_L : w.heap.size ≤ g2 := by rw [e2]; exact L.size
  replace L := below_step L l2
  refine E.GL.run rfl rfl rfl (E.Runs.assign rfl rfl) ?_
  refine E.GL.run rfl rfl rfl (E.Runs.assign rfl rfl) ?_
  refine E.GL.done ?_
  refine E.QG.code ?_
  refine E.CG.seq ?_
  refine E.CG.seq ?_
  refine E.CG.list ?_
  refine E.GL.run rfl rfl rfl (E.Runs.loads (cs := [.int .i64 H.teams, .int .i64 H.walk, .int .i64 H.early, .int .i64 H.foyer, .int .i64 H.dl, .int .i64 H.dh, .int .i64 H.cl, .int .i64 H.ch]) rfl rfl hu25 rfl info25s (blk_cells b2)) ?_
  refine E.GL.run rfl rfl rfl (E.Runs.move rfl rfl) ?_
  refine E.GL.st rfl rfl rfl (E.ST.call rfl ent29 (E.evc rfl (E.evc rfl E.evn)) ((check_calls H l A1 c1 _ hl (Kd.C_below hr L) hc).mono ?_))
  rintro e w12 ⟨rfl, l12⟩
  refine ⟨_, rfl, ?_⟩
  replace b2 := blk_below b2 l12
  replace L := below_step L l12
  refine E.GL.run rfl rfl rfl (E.Runs.assign rfl rfl) ?_
  refine E.GL.done ?_
  refine E.QG.code ?_
  refine E.CG.seq ?_
  refine E.CG.list ?_
  refine E.GL.run rfl rfl rfl (E.Runs.move rfl rfl) ?_
  refine E.GL.run rfl rfl rfl (E.Runs.neq rfl rfl rfl (E.ne_t hne)) ?_
  refine E.GL.done ?_
  refine E.QG.code ?_
  refine E.CG.cond_t rfl ?_
  refine E.CG.seq ?_
  refine E.CG.list ?_
  refine E.GL.run rfl rfl rfl (E.Runs.move rfl rfl) ?_
  refine E.GL.run rfl rfl rfl (E.Runs.assign rfl rfl) ?_
  refine E.GL.run rfl rfl rfl (E.Runs.assign rfl rfl) ?_
  refine E.GL.done ?_
  refine E.QG.code ?_
  refine E.CG.ret ?_
  refine E.QG.pass_ret ?_
  exact E.QG.result2 rfl rfl rfl ⟨rfl, L⟩

theorem late_own (H : Hs) (l : List S36) (A1 : Option Addr) (c1 : Nat) (w : World) (hl : l.length ≤ 1000000000000) (hr : Kd.C k36 w A1 l.length l) (hc : l.length ≤ c1) :
    Calls Try.prog 23 #[hv H, .slice A1 l.length c1] w fun e w' => e = .returned (.tuple #[.int .i64 (lateE H l).1, .int .i64 (lateE H l).2.1, .int .i64 (lateE H l).2.2]) ∧ Below w.heap.size w w' := by
  by_cases h : checkE H l = 0
  · simp only [lateE, if_pos h]
    exact late_row H l A1 c1 w ((checkE_valid H l).mp h) hr hc
  · simp only [lateE, if_neg h]
    exact late_bad H l A1 c1 w hl hr hc h
theorem crowded_own (H : Hs) (l : List S36) (A1 : Option Addr) (c1 : Nat) (w : World) (hl : l.length ≤ 1000000000000) (hr : Kd.C k36 w A1 l.length l) (hc : l.length ≤ c1) :
    Calls Try.prog 27 #[hv H, .slice A1 l.length c1] w fun e w' => e = .returned (.tuple #[.int .i64 (crowdE H l).1, .int .i64 (crowdE H l).2]) ∧ Below w.heap.size w w' := by
  by_cases h : checkE H l = 0
  · simp only [crowdE, if_pos h]
    exact crowded_row H l A1 c1 w ((checkE_valid H l).mp h) hr hc
  · simp only [crowdE, if_neg h]
    exact crowded_bad H l A1 c1 w hl hr hc h
theorem waiting_own (m : Int) (H : Hs) (l : List S36) (A1 : Option Addr) (c1 : Nat) (w : World) (hl : l.length ≤ 1000000000000) (hr : Kd.C k36 w A1 l.length l) (hc : l.length ≤ c1) :
    Calls Try.prog 26 #[hv H, .slice A1 l.length c1, .int .i64 m] w fun e w' => e = .returned (.tuple #[.agg #[.int .i64 (waitE H l m).1, .int .i64 (waitE H l m).2.1], .int .i64 (waitE H l m).2.2]) ∧ Below w.heap.size w w' := by
  by_cases h : checkE H l = 0
  · by_cases hm : 0 ≤ m ∧ m ≤ 9999
    · simp only [waitE, if_pos h, if_pos hm]
      exact waiting_ok H l m A1 c1 w ((checkE_valid H l).mp h) hm hr hc
    · simp only [waitE, if_pos h, if_neg hm]
      exact waiting_arg H l m A1 c1 w ((checkE_valid H l).mp h) hm hr hc
  · simp only [waitE, if_neg h]
    exact waiting_bad H l m A1 c1 w hl h hr hc
theorem times_own (H : Hs) (l : List S36) (A1 : Option Addr) (c1 : Nat) (w : World) (hl : l.length ≤ 1000000000000) (hr : Kd.C k36 w A1 l.length l) (hc : l.length ≤ c1) :
    Calls Try.prog 15 #[hv H, .slice A1 l.length c1] w fun e w' => ∃ A c, e = .returned (.tuple #[.slice A (timesE H l).length c, .int .i64 (checkE H l)]) ∧ Kd.C k34 w' A (timesE H l).length (timesE H l) ∧ Below w.heap.size w w' := by
  by_cases h : checkE H l = 0
  · simp only [timesE, if_pos h]
    refine (times_reads H l A1 c1 w ((checkE_valid H l).mp h) hr hc).mono ?_
    rintro e w' ⟨A, c, rfl, hR, hb⟩
    rw [moments_length, h]
    exact ⟨A, c, rfl, hR, hb⟩
  · simp only [timesE, if_neg h]
    refine (times_bad H l A1 c1 w hl h hr hc).mono ?_
    rintro e w' ⟨rfl, hb⟩
    exact ⟨none, 0, rfl, Kd.C_nil _ _, hb⟩
set_option maxRecDepth 100000 in
set_option maxHeartbeats 8000000 in

theorem crowded_ref (H : Hs) (l : List S36) (A1 : Option Addr) (c1 : Nat) (w : World) (hl : l.length ≤ 1000000000000) (hr : Kd.C k36 w A1 l.length l) (hc : l.length ≤ c1) :
    Calls Try.prog 34 #[hv H, .slice A1 l.length c1] w fun e w' => e = .returned (.tuple #[.int .i64 (crowdE H l).1, .int .i64 (crowdE H l).2]) ∧ Below w.heap.size w w' := by
  have hu3 := Try.underlying3
  have hu25 := Try.underlying25
  have hu26 := Try.underlying26
  have hu36 := Try.underlying36
  have hu49 := Try.underlying49
  obtain ⟨z3, o3⟩ := info_some info3s (by decide)
  obtain ⟨z36, o36⟩ := info_some info36s (by decide)
  refine E.enter (N := 43) Try.func34 rfl Try.ntmps34 (args := [hv H, .slice A1 l.length c1]) (by simp) ?_
  have L := Below.refl w.heap.size w
  refine E.CG.seq ?_
  refine E.CG.list ?_
  refine E.GL.st rfl rfl rfl (E.ST.box rfl rfl fun g2 w2 e2 b2 l2 => ?_)
  have h2_L : w.heap.size ≤ g2 := by rw [e2]; exact L.size
  replace L := below_step L l2
  refine E.GL.run rfl rfl rfl (E.Runs.assign rfl rfl) ?_
  refine E.GL.run rfl rfl rfl (E.Runs.assign rfl rfl) ?_
  refine E.GL.done ?_
  refine E.QG.code ?_
  refine E.CG.seq ?_
  refine E.CG.seq ?_
  refine E.CG.list ?_
  refine E.GL.run rfl rfl rfl (E.Runs.loads (cs := [.int .i64 H.teams, .int .i64 H.walk, .int .i64 H.early, .int .i64 H.foyer, .int .i64 H.dl, .int .i64 H.dh, .int .i64 H.cl, .int .i64 H.ch]) rfl rfl hu25 rfl info25s (blk_cells b2)) ?_
  refine E.GL.run rfl rfl rfl (E.Runs.move rfl rfl) ?_
  refine E.GL.st rfl rfl rfl (E.ST.call rfl ent19 (E.evc rfl (E.evc rfl E.evn)) ((check_ref H l A1 c1 _ hl (Kd.C_below hr L) hc).mono ?_))
  rintro e w12 ⟨rfl, l12⟩
  refine ⟨_, rfl, ?_⟩
  replace b2 := blk_below b2 l12
  replace L := below_step L l12
  refine E.GL.run rfl rfl rfl (E.Runs.assign rfl rfl) ?_
  refine E.GL.done ?_
  refine E.QG.code ?_
  refine E.CG.seq ?_
  refine E.CG.list ?_
  refine E.GL.run rfl rfl rfl (E.Runs.move rfl rfl) ?_
  refine E.GL.cmpn rfl rfl rfl (fun _ h => (E.Runs.neq rfl rfl rfl h)) (fun h14 => ?_) (fun h14 => ?_)
  · refine E.GL.done ?_
    refine E.QG.code ?_
    refine E.CG.cond_t rfl ?_
    refine E.CG.seq ?_
    refine E.CG.list ?_
    refine E.GL.run rfl rfl rfl (E.Runs.move rfl rfl) ?_
    refine E.GL.run rfl rfl rfl (E.Runs.assign rfl rfl) ?_
    refine E.GL.run rfl rfl rfl (E.Runs.assign rfl rfl) ?_
    refine E.GL.done ?_
    refine E.QG.code ?_
    refine E.CG.ret ?_
    refine E.QG.pass_ret ?_
    exact E.QG.result2 rfl rfl rfl ⟨by simp only [crowdE, if_neg h14], L⟩
  · have V := (checkE_valid H l).mp h14
    have hn := V.2.1
    have hH := V.1
    refine E.GL.done ?_
    refine E.QG.code ?_
    refine E.CG.cond_f rfl ?_
    refine E.CG.skip ?_
    refine E.QG.code ?_
    refine E.CG.seq ?_
    refine E.CG.list ?_
    refine E.GL.run rfl rfl rfl (E.Runs.loads (cs := [.int .i64 H.teams, .int .i64 H.walk, .int .i64 H.early, .int .i64 H.foyer, .int .i64 H.dl, .int .i64 H.dh, .int .i64 H.cl, .int .i64 H.ch]) rfl rfl hu25 rfl info25s (blk_cells b2)) ?_
    refine E.GL.run rfl rfl rfl (E.Runs.move rfl rfl) ?_
    refine E.GL.st rfl rfl rfl (E.ST.call rfl ent50 (E.evc rfl (E.evc rfl (E.evc rfl E.evn))) ((bound_late H l A1 c1 _ (by omega) (Kd.C_below hr L) hc).mono ?_))
    rintro e w18 ⟨Ar1, cr1, Ac1, cc1, rfl, C1, D1, l18⟩
    refine ⟨_, rfl, ?_⟩
    replace b2 := blk_below b2 l18
    replace L := below_step L l18
    have lc := Below.refl w18.heap.size w18
    refine E.GL.st rfl rfl rfl (E.ST.alloc rfl info49z fun g7 w7 e7 b7 l7 => ?_)
    have h7_L : w.heap.size ≤ g7 := by rw [e7]; exact L.size
    have h7_lc : w18.heap.size ≤ g7 := by rw [e7]; exact lc.size
    have n7_b2 : g2 ≠ g7 := by have := blk_lt b2; omega
    replace b2 := blk_below b2 l7
    replace L := below_step L l7
    replace lc := below_step lc l7
    refine E.GL.store_whole rfl rfl rfl rfl rfl b7 rfl info49s (case_one _ _ _ _ _ _ _) fun wS4_4 c7 lS4_4 => ?_
    replace b2 := blk_grown b2 lS4_4 (E.nes (by first | assumption | exact Ne.symm (by assumption)))
    replace L := E.below_own L h7_L lS4_4
    replace lc := E.below_own lc h7_lc lS4_4
    replace b7 := c7
    clear c7
    refine E.GL.done ?_
    refine E.QG.code ?_
    refine E.CG.seq ?_
    refine E.CG.seq ?_
    refine E.CG.list ?_
    refine E.GL.run rfl rfl rfl (E.Runs.assign rfl rfl) ?_
    refine E.GL.done ?_
    refine E.QG.code ?_
    refine E.CG.block ?_
    have s6_b2 := b2
    have s6_b7 := b7
    have s6_L := L
    have s6_lc := lc
    refine E.CG.loop (fun (k : Nat) => [(1, .slice A1 l.length c1), (2, .pointer (some ⟨g2, 0, none⟩)), (7, .pointer (some ⟨g7, 0, none⟩)), (8, .int .i64 k)]) (fun k w' => k ≤ l.length ∧ Below wS4_4.heap.size wS4_4 w' ∧ crowdT H l l = crowdT H l (l.drop k)) (fun k => l.length - k) 0 (E.subc rfl (E.subc rfl (E.subc rfl (E.subc rfl (E.subn))))) ⟨Nat.zero_le _, Below.refl _ _, rfl⟩ ?_
    rintro k w6 ⟨hk, lq, hq⟩
    replace b2 := blk_below b2 lq
    replace b7 := blk_below b7 lq
    replace L := below_step L lq
    replace lc := below_step lc lq
    refine E.CG.seq ?_
    refine E.CG.seq ?_
    refine E.CG.list ?_
    refine E.GL.run rfl rfl rfl (E.Runs.move rfl rfl) ?_
    refine E.GL.run rfl rfl rfl (E.Runs.move rfl rfl) ?_
    refine E.GL.run rfl rfl rfl (E.Runs.len rfl rfl hu26) ?_
    refine E.GL.cmp rfl rfl rfl (fun _ h => (E.Runs.lss rfl rfl rfl h)) (fun h22 => ?_) (fun h22 => ?_)
    · have hlt : k < l.length := by omega
      obtain ⟨s, hs⟩ : ∃ s, l[k]? = some s := ⟨_, List.getElem?_eq_getElem hlt⟩
      have SI := valid_slots V s (List.mem_of_getElem? hs)
      have sb := SI.2
      have hH2 := hH
      unfold HouseOk at hH2
      obtain ⟨ad, eA, S⟩ := slot_at hr hs
      have hwt : waitSum (pcR H.dl) H (max 0 (s.f1 - H.early)) l (dayT (⟨H.dl, H.walk, H.early⟩ : Rt) (items l (l.map fun s => s.f2.f1) (l.map fun _ => H.ch))) = waitT (pcL H) H l (max 0 (s.f1 - H.early)) := by rw [day_L V]; exact waitSum_ra (p := pcR H.dl) (q := pcL H) rfl H _ l _
      refine E.GL.done ?_
      refine E.QG.code ?_
      refine E.CG.cond_t rfl ?_
      refine E.CG.skip ?_
      refine E.QG.code ?_
      refine E.CG.seq ?_
      refine E.CG.block ?_
      refine E.CG.seq ?_
      refine E.CG.quietF (by kernel_rfl) rfl (by kernel_rfl) (by kernel_rfl) ?_
      refine E.GQ.run rfl rfl rfl (E.Runs.move rfl rfl) ?_
      refine E.GQ.run rfl rfl rfl (E.Runs.move rfl rfl) ?_
      refine E.GQ.run rfl rfl rfl (E.Runs.indexAddrA rfl rfl rfl hu26 (by assumption) (by assumption) (by assumption) (by first | rfl | assumption) rfl) ?_
      refine E.GQ.run rfl rfl rfl (E.Runs.fieldAddr rfl rfl hu36 rfl (by assumption) rfl) ?_
      refine E.GQ.run rfl rfl rfl (E.Runs.load rfl rfl hu3 (by first | assumption | exact E.blkc (by assumption) rfl | exact pw_cell_below L (by assumption) | exact pw_cell_below lc (by assumption) | exact pw_cell_below lq (by assumption) | exact pw_cell_below L S.c0 | exact pw_cell_below L S.c1 | exact pw_cell_below L S.c2 | exact pw_cell_below L S.c3 | exact pw_cell_below L S.c4 | exact pw_cell_below L S.c5)) ?_
      refine E.GQ.run rfl rfl rfl (E.Runs.fieldAddr rfl rfl hu25 rfl (by assumption) rfl) ?_
      refine E.GQ.run rfl rfl rfl (E.Runs.load rfl rfl hu3 (by first | assumption | exact E.blkc (by assumption) rfl | exact pw_cell_below L (by assumption) | exact pw_cell_below lc (by assumption) | exact pw_cell_below lq (by assumption) | exact pw_cell_below L S.c0 | exact pw_cell_below L S.c1 | exact pw_cell_below L S.c2 | exact pw_cell_below L S.c3 | exact pw_cell_below L S.c4 | exact pw_cell_below L S.c5)) ?_
      refine E.GQ.run rfl rfl rfl (E.Runs.sub rfl rfl rfl (IntWalk.i64_in _ (by omega))) ?_
      refine E.GQ.run rfl rfl rfl (E.Runs.max rfl rfl rfl (mx_max (s.f1 - H.early))) ?_
      refine E.GQ.run rfl rfl rfl (E.Runs.assign rfl rfl) ?_
      refine E.GQ.doneB fun v8 lD => ?_
      replace b2 := blk_below b2 lD
      replace b7 := blk_below b7 lD
      replace L := below_step L lD
      replace lc := below_step lc lD
      replace lq := below_step lq lD
      clear lD
      refine E.QG.code ?_
      refine E.CG.seq ?_
      refine E.CG.heldH (none) (by kernel_rfl) fun v9 lD hh => ?_
      replace b2 := blk_below b2 lD
      replace b7 := blk_below b7 lD
      replace L := below_step L lD
      replace lc := below_step lc lD
      replace lq := below_step lq lD
      clear lD
      have s_b2 := b2
      have s_b7 := b7
      have s_L := L
      have s_lc := lc
      have s_lq := lq
      refine E.GH.take (i := 0) rfl (by kernel_rfl) (by kernel_rfl) (by kernel_rfl) (by intro c a d v w h; cases d <;> exact h) rfl rfl rfl (fun w' hS => (E.Runs.loads (cs := [.int .i64 H.teams, .int .i64 H.walk, .int .i64 H.early, .int .i64 H.foyer, .int .i64 H.dl, .int .i64 H.dh, .int .i64 H.cl, .int .i64 H.ch]) rfl rfl hu25 rfl info25s (blk_cells (blk_grown s_b2 hS E.nen)))) ?_
      refine E.GH.take (i := 1) rfl (by kernel_rfl) (by kernel_rfl) (by kernel_rfl) (by intro c a d v w h; cases d <;> exact h) rfl rfl rfl (fun w' hS => (E.Runs.move rfl rfl)) ?_
      refine E.GH.take (i := 2) rfl (by kernel_rfl) (by kernel_rfl) (by kernel_rfl) (by intro c a d v w h; cases d <;> exact h) rfl rfl rfl (fun w' hS => (E.Runs.loads (cs := [.slice Ar1 l.length cr1, .slice Ac1 l.length cc1, .int .i64 H.dl]) rfl rfl hu49 rfl info49s (blk_cells (blk_grown s_b7 hS E.nen)))) ?_
      refine E.GH.take (i := 3) rfl (by kernel_rfl) (by kernel_rfl) (by kernel_rfl) (by intro c a d v w h; cases d <;> exact h) rfl rfl rfl (fun w' hS => (E.Runs.move rfl rfl)) ?_
      refine E.GH.take (i := 5) rfl (by kernel_rfl) (by kernel_rfl) (by kernel_rfl) (by intro c a d v w h; cases d <;> exact h) rfl rfl rfl (fun w' hS => (E.Runs.fieldAddr rfl rfl hu25 rfl (by assumption) rfl)) ?_
      refine E.GH.take (i := 6) rfl (by kernel_rfl) (by kernel_rfl) (by kernel_rfl) (by intro c a d v w h; cases d <;> exact h) rfl rfl rfl (fun w' hS => (E.Runs.load rfl rfl hu3 (by first | exact E.keeps hS (E.blkc (by assumption) rfl) (by first | exact E.nen | exact E.nes (by assumption) | exact E.nes (Ne.symm (by assumption))) | exact pw_cell_below (below_step s_L (E.belowG hS)) (by assumption) | exact pw_cell_below (below_step s_L (E.belowG hS)) S.c0 | exact pw_cell_below (below_step s_L (E.belowG hS)) S.c1 | exact pw_cell_below (below_step s_L (E.belowG hS)) S.c2 | exact pw_cell_below (below_step s_L (E.belowG hS)) S.c3 | exact pw_cell_below (below_step s_L (E.belowG hS)) S.c4 | exact pw_cell_below (below_step s_L (E.belowG hS)) S.c5 | exact pw_cell_below (below_step s_lc (E.belowG hS)) (by assumption) | exact pw_cell_below (below_step s_lq (E.belowG hS)) (by assumption)))) ?_
      refine E.GH.one (i := 4) (by kernel_rfl) rfl ?_
      refine E.GO.st rfl rfl rfl (E.ST.call rfl ent28 (E.evc rfl (E.evc rfl (E.evc rfl (E.evc rfl E.evn)))) ((waits_row H l _ _ H.dl (max 0 (s.f1 - H.early)) A1 Ar1 Ac1 c1 cr1 cc1 _ (by unfold HouseOk at hH; omega) (by omega) (rtL hH) (it_L V) (Kd.C_below hr L) hc (Kd.C_below C1 lc) (Kd.C_below D1 lc)).mono ?_))
      rintro e w38 ⟨rfl, l38⟩
      refine ⟨_, rfl, hh.trans (E.gbB l38), ?_⟩
      replace hh := hh.trans (E.gbB l38)
      replace b2 := blk_below b2 l38
      replace b7 := blk_below b7 l38
      replace L := below_step L l38
      replace lc := below_step lc l38
      replace lq := below_step lq l38
      rw [hwt]
      refine E.GH.cmp (i := 7) rfl (by kernel_rfl) (by kernel_rfl) (by kernel_rfl) (by intro c a d v w h; cases d <;> exact h) rfl rfl rfl (fun _ h w' hS => (E.Runs.gtr rfl rfl rfl h)) (fun h41 => ?_) (fun h41 => ?_)
      · refine E.GH.done (by kernel_rfl) ?_
        refine E.QG.code ?_
        refine E.CG.cond_t rfl ?_
        refine E.CG.seq ?_
        refine E.CG.list ?_
        refine E.GL.run rfl rfl rfl (E.Runs.move rfl rfl) ?_
        refine E.GL.run rfl rfl rfl (E.Runs.assign rfl rfl) ?_
        refine E.GL.run rfl rfl rfl (E.Runs.assign rfl rfl) ?_
        refine E.GL.done ?_
        refine E.QG.code ?_
        refine E.CG.ret ?_
        refine E.QG.block_ret ?_
        refine E.QG.pass_ret ?_
        refine E.QG.pass_ret ?_
        refine E.QG.block_ret ?_
        refine E.QG.pass_ret ?_
        exact E.QG.result2 rfl rfl rfl ⟨by simp only [crowdE, if_pos h14]; rw [hq, crowdT_at hs, if_pos h41], L⟩
      · refine E.GH.done (by kernel_rfl) ?_
        refine E.QG.code ?_
        refine E.CG.cond_f rfl ?_
        refine E.CG.skip ?_
        refine E.QG.block_normal ?_
        refine E.QG.code ?_
        refine E.CG.list ?_
        refine E.GL.run rfl rfl rfl (E.Runs.move rfl rfl) ?_
        refine E.GL.run rfl rfl rfl (E.Runs.add rfl rfl rfl (IntWalk.i64_in _ (by omega))) ?_
        refine E.GL.run rfl rfl rfl (E.Runs.assign rfl rfl) ?_
        refine E.GL.done ?_
        exact E.QG.round (k + 1) (E.subc rfl (E.subc rfl (E.subc rfl (E.subc rfl E.subn)))) ⟨by omega, lq, by rw [hq, crowdT_at hs, if_neg h41]⟩ (by omega)
    · refine E.GL.done ?_
      refine E.QG.code ?_
      refine E.CG.cond_f rfl ?_
      refine E.CG.exit ?_
      refine E.QG.pass_exit ?_
      refine E.QG.pass_exit ?_
      refine E.QG.block_here ?_
      refine E.QG.code ?_
      refine E.CG.seq ?_
      refine E.CG.list ?_
      refine E.GL.run rfl rfl rfl (E.Runs.assign rfl rfl) ?_
      refine E.GL.run rfl rfl rfl (E.Runs.assign rfl rfl) ?_
      refine E.GL.done ?_
      refine E.QG.code ?_
      refine E.CG.ret ?_
      exact E.QG.result2 rfl rfl rfl ⟨by simp only [crowdE, if_pos h14]; rw [hq, List.drop_eq_nil_of_le (by omega)]; rfl, L⟩

end Go.Proofs.Ythdbkhdiaehblaa.T
