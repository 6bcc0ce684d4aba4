/- Other teams: the walks of With, of who is late with them, and of whether there are some. -/
import Derived.Test.YthdbkhdiaehblaaT44
namespace Go.Proofs.Ythdbkhdiaehblaa.T
open Go.RowKit Go.Proofs.YthdbkhdiaehblaaW.PrintWords Go.Proofs.YthdbkhdiaehblaaW.PrintMore
open Go.Proofs.Ythdbkhdiaehblaa.P
set_option linter.unusedVariables false
set_option linter.unusedSimpArgs false

theorem withT_full : ∀ (l : List S36) (ts : List Int), withT l (ts.take l.length) = withT l ts
  | [], _ => rfl
  | _ :: _, [] => by simp
  | _ :: l, _ :: ts => by simp only [List.length_cons, List.take_succ_cons, withT, withT_full l ts]
theorem row36_team {W : World} {base : Nat} {A : Option Addr} {n c : Nat} {xs : List S36} {i : Nat} {s : S36} (R : Kd.R k36 36 W base (fun _ => True) (.slice A n c) xs) (hs : xs[i]? = some s) :
    ∃ g, A = some ⟨g, 0, none⟩ ∧ base ≤ g ∧ W.cell? ⟨g, i * 6 + 4, none⟩ = some (.int .i64 s.f3) ∧ W.cell? ⟨g, i * 6 + 5, none⟩ = some (.int .i64 s.f4) ∧ W.frozen? ⟨g, i * 6 + 5, none⟩ = false ∧
      ∀ t : Int, Kd.R k36 36 (W.setCell ⟨g, i * 6 + 5, none⟩ (.int .i64 t)) base (fun _ => True) (.slice A n c) (xs.set i (teamS s t)) ∧ W.grownBy (W.setCell ⟨g, i * 6 + 5, none⟩ (.int .i64 t)) (some g) := by
  have hil : i < xs.length := (List.getElem?_eq_some_iff.1 hs).1
  obtain ⟨g, cap, hv, hb, hl, cells, hc⟩ := Kd.R_form R (by omega)
  have hn := (Kd.R_reads' R).1
  injection hv with hA hn' hc'
  subst hA hc'
  obtain ⟨cs, h1, h2, h3, h4⟩ := Kd.R_elem R z36 (i : Int) (by omega) (by omega)
  have hx : xs.getD i z36 = s := by simp [List.getD_eq_getElem?_getD, hs]
  rw [Int.toNat_natCast, hx] at h2
  obtain rfl := k36_open (Kd.K_of_M k36 h2)
  rw [Int.toNat_natCast] at h3 h4
  refine ⟨g, rfl, hb, h3 4 _ rfl, h3 5 _ rfl, h4 5, fun t => ?_⟩
  have := Kd.R_seg R (i : Int) (by omega) (by omega) (seg := [.int .i64 t]) (j := 5) h1 (by rw [Int.toNat_natCast]; exact h3) (by show 5 + 1 ≤ 6; decide) (x' := (teamS s t : S36)) (okp := fun _ => False) (k36_mkM _ _ _ (teamS s t : S36)) (fun _ hk => hk.elim)
  rw [Int.toNat_natCast] at this
  exact this
set_option maxRecDepth 100000 in
set_option maxHeartbeats 8000000 in

theorem with_own (l : List S36) (ts : List Int) (A1 A2 : Option Addr) (c1 c2 : Nat) (w : World) (hn : l.length ≤ 1000000) (hr : Kd.C k36 w A1 l.length l) (hc : l.length ≤ c1) (hR : Kd.C kI w A2 ts.length ts) :
    Calls Try.prog 39 #[.slice A1 l.length c1, .slice A2 ts.length c2] w fun e w' => ∃ v, e = .returned v ∧ Kd.R k36 36 w' w.heap.size (fun _ => True) v (withT l ts) ∧ Below w.heap.size w w' := by
  have hu3 := Try.underlying3
  have hu26 := Try.underlying26
  have hu36 := Try.underlying36
  have hu47 := Try.underlying47
  obtain ⟨z3, o3⟩ := info_some info3s (by decide)
  obtain ⟨z36, o36⟩ := info_some info36s (by decide)
  have hts := Kd.C_max hR
  refine E.enter (N := 31) Try.func39 rfl Try.ntmps39 (args := [.slice A1 l.length c1, .slice A2 ts.length c2]) (by simp) ?_
  have L := Below.refl w.heap.size w
  refine E.CG.seq ?_
  refine E.CG.list ?_
  refine E.GL.run rfl rfl rfl (E.Runs.assign rfl rfl) ?_
  refine E.GL.done ?_
  refine E.QG.code ?_
  refine E.CG.seq ?_
  refine E.CG.list ?_
  refine E.GL.st rfl rfl rfl (E.ST.litR k36 w.heap.size (w0 := w) (ys := ([] : List S36)) (inner := []) rfl rfl E.epn lit36n (Reps.none _ _) L L.size (by simp) fun u3 w3 r3 k3 g3 => ?_)
  replace L := k3
  refine E.GL.run rfl rfl rfl (E.Runs.move rfl rfl) ?_
  refine E.GL.st rfl rfl rfl (E.ST.appendRows k36 w.heap.size (w0 := w) (s := .tmp 7) (x := .tmp 8) rfl hu26 info36 rfl (by decide) (by decide) rfl rfl r3 (Kd.C_below hr L) k36_made L L.size (by simp only [List.length_nil]; omega) fun v5 w5 R5 k5 g5 => ?_)
  replace L := k5
  refine E.GL.run rfl rfl rfl (E.Runs.assign rfl rfl) ?_
  refine E.GL.done ?_
  refine E.QG.code ?_
  refine E.CG.seq ?_
  refine E.CG.seq ?_
  refine E.CG.list ?_
  refine E.GL.run rfl rfl rfl (E.Runs.assign rfl rfl) ?_
  refine E.GL.done ?_
  refine E.QG.code ?_
  refine E.CG.block ?_
  rw [List.nil_append] at R5
  obtain ⟨A5, c5, h5⟩ := Kd.R_slice R5
  subst h5
  have s3_L := L
  refine E.CG.loop (fun (i : Nat) => [(1, .slice A2 ts.length c2), (5, .slice A5 l.length c5), (6, .int .i64 i)]) (fun i w' => i ≤ l.length ∧ i ≤ ts.length ∧ Kd.R k36 36 w' w.heap.size (fun _ => True) (.slice A5 l.length c5) (withT l (ts.take i)) ∧ Below w.heap.size w w') (fun i => l.length - i) 0 (E.subc rfl (E.subc rfl (E.subc rfl (E.subn)))) ⟨Nat.zero_le _, Nat.zero_le _, by simpa [withT_nil] using R5, L⟩ ?_
  rintro i w3 ⟨hi, hi2, R5, L⟩
  refine E.CG.seq ?_
  refine E.CG.seq ?_
  refine E.CG.list ?_
  refine E.GL.run rfl rfl rfl (E.Runs.move rfl rfl) ?_
  refine E.GL.run rfl rfl rfl (E.Runs.move rfl rfl) ?_
  refine E.GL.run rfl rfl rfl (E.Runs.len rfl rfl hu26) ?_
  refine E.GL.cmp rfl rfl rfl (fun _ h => (E.Runs.lss rfl rfl rfl h)) (fun h13 => ?_) (fun h13 => ?_)
  · have hlt : i < l.length := by omega
    obtain ⟨s, hs⟩ : ∃ s, l[i]? = some s := ⟨_, List.getElem?_eq_getElem hlt⟩
    obtain ⟨g5, eA5, hg5, cf4, cf, fr5, st5⟩ := row36_team R5 ((withT_at l ts i).trans hs)
    refine E.GL.run rfl rfl rfl (E.Runs.move rfl rfl) ?_
    refine E.GL.run rfl rfl rfl (E.Runs.move rfl rfl) ?_
    refine E.GL.run rfl rfl rfl (E.Runs.move rfl rfl) ?_
    refine E.GL.run rfl rfl rfl (E.Runs.len rfl rfl hu47) ?_
    refine E.GL.cmp rfl rfl rfl (fun _ h => (E.Runs.lss rfl rfl rfl h)) (fun h18 => ?_) (fun h18 => ?_)
    · have hlt2 : i < ts.length := by omega
      obtain ⟨t, ht⟩ : ∃ t, ts[i]? = some t := ⟨_, List.getElem?_eq_getElem hlt2⟩
      obtain ⟨aa, eR, yr⟩ := int_at hR ht
      refine E.GL.run rfl rfl rfl (E.Runs.pick_t rfl rfl rfl) ?_
      refine E.GL.done ?_
      refine E.QG.code ?_
      refine E.CG.cond_t rfl ?_
      refine E.CG.skip ?_
      refine E.QG.code ?_
      refine E.CG.seq ?_
      refine E.CG.block ?_
      refine E.CG.list ?_
      refine E.GL.run rfl rfl rfl (E.Runs.move rfl rfl) ?_
      refine E.GL.run rfl rfl rfl (E.Runs.move rfl rfl) ?_
      refine E.GL.run rfl rfl rfl (E.Runs.move rfl rfl) ?_
      refine E.GL.run rfl rfl rfl (E.Runs.move rfl rfl) ?_
      refine E.GL.run rfl rfl rfl (E.Runs.indexAddrA rfl rfl rfl hu47 (by assumption) (by assumption) (by assumption) (by first | rfl | assumption) rfl) ?_
      refine E.GL.run rfl rfl rfl (E.Runs.load rfl rfl hu3 (by first | assumption | exact E.blkc (by assumption) rfl | exact pw_cell_below L (by assumption))) ?_
      refine E.GL.run rfl rfl rfl (E.Runs.indexAddrA rfl rfl rfl hu26 (by assumption) (by assumption) (by assumption) (by first | rfl | assumption) (show _ = (⟨g5, i * 6, none⟩ : Addr) from by rw [Go.Addr.add_mid, Nat.zero_add])) ?_
      refine E.GL.run rfl rfl rfl (E.Runs.fieldAddr rfl rfl hu36 rfl (by assumption) rfl) ?_
      refine E.GL.sn rfl rfl (E.ST.store1 rfl z3 o3 rfl rfl cf fr5 ?_)
      obtain ⟨wJ, hwJ⟩ : ∃ wJ, wJ = World.setCell w3 ⟨g5, i * 6 + 5, none⟩ (.int .i64 t) := ⟨_, rfl⟩
      obtain ⟨RJ, gJ⟩ := st5 t
      rw [← hwJ] at RJ gJ
      rw [← hwJ]
      replace L := E.below_own L hg5 gJ
      replace R5 := RJ
      refine E.GL.done ?_
      refine E.QG.block_normal ?_
      refine E.QG.code ?_
      refine E.CG.list ?_
      refine E.GL.run rfl rfl rfl (E.Runs.move rfl rfl) ?_
      refine E.GL.run rfl rfl rfl (E.Runs.add rfl rfl rfl (IntWalk.i64_in _ (by omega))) ?_
      refine E.GL.run rfl rfl rfl (E.Runs.assign rfl rfl) ?_
      refine E.GL.done ?_
      exact E.QG.round (i + 1) (E.subc rfl (E.subc rfl (E.subc rfl E.subn))) ⟨by omega, by omega, by rw [← withT_step l ts i s t hs ht]; exact R5, L⟩ (by omega)
    · refine E.GL.run rfl rfl rfl (E.Runs.pick_t rfl rfl rfl) ?_
      refine E.GL.done ?_
      refine E.QG.code ?_
      refine E.CG.cond_f rfl ?_
      refine E.CG.exit ?_
      refine E.QG.pass_exit ?_
      refine E.QG.pass_exit ?_
      refine E.QG.block_here ?_
      refine E.QG.code ?_
      refine E.CG.seq ?_
      refine E.CG.list ?_
      refine E.GL.run rfl rfl rfl (E.Runs.move rfl rfl) ?_
      refine E.GL.run rfl rfl rfl (E.Runs.assign rfl rfl) ?_
      refine E.GL.done ?_
      refine E.QG.code ?_
      refine E.CG.ret ?_
      exact E.QG.result rfl rfl ⟨_, rfl, by rw [← List.take_of_length_le (show ts.length ≤ i by omega)]; exact R5, L⟩
  · refine E.GL.run rfl rfl rfl (E.Runs.move rfl rfl) ?_
    refine E.GL.skip rfl rfl rfl ?_
    refine E.GL.skip rfl rfl rfl ?_
    refine E.GL.skip rfl rfl rfl ?_
    refine E.GL.skip rfl rfl rfl ?_
    refine E.GL.run rfl rfl rfl (E.Runs.pick_f rfl rfl rfl) ?_
    refine E.GL.done ?_
    refine E.QG.code ?_
    refine E.CG.cond_f rfl ?_
    refine E.CG.exit ?_
    refine E.QG.pass_exit ?_
    refine E.QG.pass_exit ?_
    refine E.QG.block_here ?_
    refine E.QG.code ?_
    refine E.CG.seq ?_
    refine E.CG.list ?_
    refine E.GL.run rfl rfl rfl (E.Runs.move rfl rfl) ?_
    refine E.GL.run rfl rfl rfl (E.Runs.assign rfl rfl) ?_
    refine E.GL.done ?_
    refine E.QG.code ?_
    refine E.CG.ret ?_
    exact E.QG.result rfl rfl ⟨_, rfl, by (have : i = l.length := by omega); subst this; rw [← withT_full]; exact R5, L⟩

theorem with_row (l : List S36) (ts : List Int) (A1 A2 : Option Addr) (c1 c2 : Nat) (w : World) (hn : l.length ≤ 1000000) (hr : Kd.C k36 w A1 l.length l) (hc : l.length ≤ c1) (hR : Kd.C kI w A2 ts.length ts) :
    Calls Try.prog 39 #[.slice A1 l.length c1, .slice A2 ts.length c2] w fun e w' => ∃ A c, e = .returned (.slice A (withT l ts).length c) ∧ (withT l ts).length ≤ c ∧ Kd.C k36 w' A (withT l ts).length (withT l ts) ∧ Below w.heap.size w w' := by
  refine (with_own l ts A1 A2 c1 c2 w hn hr hc hR).mono ?_
  rintro e w' ⟨v, rfl, hR, hb⟩
  obtain ⟨A, c, rfl⟩ := Kd.R_slice hR
  obtain ⟨h1, h2, h3⟩ := Kd.R_reads' hR
  exact ⟨A, c, rfl, h2, h3, hb⟩
set_option maxRecDepth 100000 in
set_option maxHeartbeats 8000000 in

theorem late_r4 (H : Hs) (l : List S36) (A1 : Option Addr) (c1 : Nat) (w : World) (h : LV H l) (hr : Kd.C k36 w A1 l.length l) (hc : l.length ≤ c1) :
    Calls Try.prog 56 #[hv H, .slice A1 l.length c1] w fun e w' => e = .returned (.tuple #[.int .i64 (lateT l (lateDay H l) 0).1, .int .i64 (lateT l (lateDay H l) 0).2]) ∧ Below w.heap.size w w' := by
  have hu3 := Try.underlying3
  have hu25 := Try.underlying25
  have hu26 := Try.underlying26
  have hu36 := Try.underlying36
  have hu53 := Try.underlying53
  have hu56 := Try.underlying56
  obtain ⟨z3, o3⟩ := info_some info3s (by decide)
  obtain ⟨z36, o36⟩ := info_some info36s (by decide)
  obtain ⟨z56, o56⟩ := info_some info56s (by decide)
  have hn := h.2.1
  refine E.enter (N := 43) Try.func56 rfl Try.ntmps56 (args := [hv H, .slice A1 l.length c1]) (by simp) ?_
  have L := Below.refl w.heap.size w
  refine E.CG.seq ?_
  refine E.CG.list ?_
  refine E.GL.st rfl rfl rfl (E.ST.box rfl rfl fun g2 w2 e2 b2 l2 => ?_)
  have h2_L : w.heap.size ≤ g2 := by rw [e2]; exact L.size
  replace L := below_step L l2
  refine E.GL.run rfl rfl rfl (E.Runs.assign rfl rfl) ?_
  refine E.GL.run rfl rfl rfl (E.Runs.assign rfl rfl) ?_
  refine E.GL.done ?_
  refine E.QG.code ?_
  refine E.CG.seq ?_
  refine E.CG.heldH (none) (by kernel_rfl) fun v1 lD hh => ?_
  replace b2 := blk_below b2 lD
  replace L := below_step L lD
  clear lD
  have s_b2 := b2
  have s_L := L
  refine E.GH.take (i := 0) rfl (by kernel_rfl) (by kernel_rfl) (by kernel_rfl) (by intro c a d v w h; cases d <;> exact h) rfl rfl rfl (fun w' hS => (E.Runs.loads (cs := [.int .i64 H.teams, .int .i64 H.walk, .int .i64 H.early, .int .i64 H.foyer, .int .i64 H.dl, .int .i64 H.dh, .int .i64 H.cl, .int .i64 H.ch]) rfl rfl hu25 rfl info25s (blk_cells (blk_grown s_b2 hS E.nen)))) ?_
  refine E.GH.take (i := 1) rfl (by kernel_rfl) (by kernel_rfl) (by kernel_rfl) (by intro c a d v w h; cases d <;> exact h) rfl rfl rfl (fun w' hS => (E.Runs.move rfl rfl)) ?_
  refine E.GH.take (i := 2) rfl (by kernel_rfl) (by kernel_rfl) (by kernel_rfl) (by intro c a d v w h; cases d <;> exact h) rfl rfl rfl (fun w' hS => (E.Runs.loads (cs := [.int .i64 H.teams, .int .i64 H.walk, .int .i64 H.early, .int .i64 H.foyer, .int .i64 H.dl, .int .i64 H.dh, .int .i64 H.cl, .int .i64 H.ch]) rfl rfl hu25 rfl info25s (blk_cells (blk_grown s_b2 hS E.nen)))) ?_
  refine E.GH.take (i := 3) rfl (by kernel_rfl) (by kernel_rfl) (by kernel_rfl) (by intro c a d v w h; cases d <;> exact h) rfl rfl rfl (fun w' hS => (E.Runs.move rfl rfl)) ?_
  refine E.GH.one (i := 4) (by kernel_rfl) rfl ?_
  refine E.GO.st rfl rfl rfl (E.ST.call rfl ent50 (E.evc rfl (E.evc rfl (E.evc rfl E.evn))) ((bound_late H l A1 c1 _ (by omega) (Kd.C_below hr L) hc).mono ?_))
  rintro e w12 ⟨Ar1, cr1, Ac1, cc1, rfl, C1, D1, l12⟩
  refine ⟨_, rfl, hh.trans (E.gbB l12), ?_⟩
  replace hh := hh.trans (E.gbB l12)
  replace b2 := blk_below b2 l12
  replace L := below_step L l12
  refine E.GH.one (i := 5) (by kernel_rfl) rfl ?_
  refine E.GO.st rfl rfl rfl (E.ST.call rfl ent24 (E.evc rfl (E.evc rfl (E.evc rfl E.evn))) ((run_late4 H l A1 Ar1 Ac1 c1 cr1 cc1 _ h (Kd.C_below hr L) hc C1 D1).mono ?_))
  rintro e w13 ⟨Ae, ce, rfl, ke, re, l13⟩
  refine ⟨_, rfl, hh.trans (E.gbB l13), ?_⟩
  replace hh := hh.trans (E.gbB l13)
  replace b2 := blk_below b2 l13
  replace L := below_step L l13
  refine E.GH.take (i := 6) rfl (by kernel_rfl) (by kernel_rfl) (by kernel_rfl) (by intro c a d v w h; cases d <;> exact h) rfl rfl rfl (fun w' hS => (E.Runs.assign rfl rfl)) ?_
  refine E.GH.done (by kernel_rfl) ?_
  refine E.QG.code ?_
  refine E.CG.seq ?_
  refine E.CG.seq ?_
  refine E.CG.list ?_
  refine E.GL.run rfl rfl rfl (E.Runs.assign rfl rfl) ?_
  refine E.GL.done ?_
  refine E.QG.code ?_
  refine E.CG.block ?_
  have s3_b2 := b2
  have s3_L := L
  refine E.CG.loop (fun (k : Nat) => [(1, .slice A1 l.length c1), (6, .slice Ae l.length ce), (7, .int .i64 k)]) (fun k w' => k ≤ l.length ∧ Below w13.heap.size w13 w' ∧ lateT l (lateDay H l) 0 = lateT (l.drop k) ((lateDay H l).drop k) k) (fun k => l.length - k) 0 (E.subc rfl (E.subc rfl (E.subc rfl (E.subn)))) ⟨Nat.zero_le _, Below.refl _ _, rfl⟩ ?_
  rintro k w3 ⟨hk, lq, hq⟩
  replace L := below_step L lq
  refine E.CG.seq ?_
  refine E.CG.seq ?_
  refine E.CG.list ?_
  refine E.GL.run rfl rfl rfl (E.Runs.move rfl rfl) ?_
  refine E.GL.run rfl rfl rfl (E.Runs.move rfl rfl) ?_
  refine E.GL.run rfl rfl rfl (E.Runs.len rfl rfl hu26) ?_
  refine E.GL.cmp rfl rfl rfl (fun _ h => (E.Runs.lss rfl rfl rfl h)) (fun h17 => ?_) (fun h17 => ?_)
  · have hlt : k < l.length := by omega
    obtain ⟨s, hs⟩ : ∃ s, l[k]? = some s := ⟨_, List.getElem?_eq_getElem hlt⟩
    obtain ⟨t, ht⟩ : ∃ t, (lateDay H l)[k]? = some t := ⟨_, List.getElem?_eq_getElem (by rw [allT_length]; exact hlt)⟩
    obtain ⟨ae, eB, T⟩ := tm_at re ht
    obtain ⟨ad, eA, S⟩ := slot_at hr hs
    have bd := late_bound4 h hs ht
    refine E.GL.done ?_
    refine E.QG.code ?_
    refine E.CG.cond_t rfl ?_
    refine E.CG.skip ?_
    refine E.QG.code ?_
    refine E.CG.seq ?_
    refine E.CG.block ?_
    refine E.CG.seq ?_
    refine E.CG.quietF (by kernel_rfl) rfl (by kernel_rfl) (by kernel_rfl) ?_
    refine E.GQ.run rfl rfl rfl (E.Runs.move rfl rfl) ?_
    refine E.GQ.run rfl rfl rfl (E.Runs.move rfl rfl) ?_
    refine E.GQ.run rfl rfl rfl (E.Runs.indexAddrA rfl rfl rfl hu53 (by assumption) (by assumption) (by assumption) (by first | rfl | assumption) rfl) ?_
    refine E.GQ.run rfl rfl rfl (E.Runs.fieldAddr rfl rfl hu56 rfl (by assumption) rfl) ?_
    refine E.GQ.run rfl rfl rfl (E.Runs.load rfl rfl hu3 (by first | assumption | exact E.blkc (by assumption) rfl | exact pw_cell_below L (by assumption) | exact pw_cell_below lq (by assumption) | exact pw_cell_below L S.c0 | exact pw_cell_below L S.c1 | exact pw_cell_below L S.c2 | exact pw_cell_below L S.c3 | exact pw_cell_below L S.c4 | exact pw_cell_below L S.c5 | exact pw_cell_below lq T.c0 | exact pw_cell_below lq T.c1 | exact pw_cell_below lq T.c2 | exact pw_cell_below lq T.c3 | exact pw_cell_below lq T.c4)) ?_
    refine E.GQ.run rfl rfl rfl (E.Runs.move rfl rfl) ?_
    refine E.GQ.run rfl rfl rfl (E.Runs.move rfl rfl) ?_
    refine E.GQ.run rfl rfl rfl (E.Runs.indexAddrA rfl rfl rfl hu26 (by assumption) (by assumption) (by assumption) (by first | rfl | assumption) rfl) ?_
    refine E.GQ.run rfl rfl rfl (E.Runs.fieldAddr rfl rfl hu36 rfl (by assumption) rfl) ?_
    refine E.GQ.run rfl rfl rfl (E.Runs.load rfl rfl hu3 (by first | assumption | exact E.blkc (by assumption) rfl | exact pw_cell_below L (by assumption) | exact pw_cell_below lq (by assumption) | exact pw_cell_below L S.c0 | exact pw_cell_below L S.c1 | exact pw_cell_below L S.c2 | exact pw_cell_below L S.c3 | exact pw_cell_below L S.c4 | exact pw_cell_below L S.c5 | exact pw_cell_below lq T.c0 | exact pw_cell_below lq T.c1 | exact pw_cell_below lq T.c2 | exact pw_cell_below lq T.c3 | exact pw_cell_below lq T.c4)) ?_
    refine E.GQ.cmp rfl rfl rfl (fun _ h => (E.Runs.gtr rfl rfl rfl h)) (fun h30 => ?_) (fun h30 => ?_)
    · refine E.GQ.doneB fun v5 lD => ?_
      replace L := below_step L lD
      replace lq := below_step lq lD
      clear lD
      refine E.QG.code ?_
      refine E.CG.cond_t rfl ?_
      refine E.CG.seq ?_
      refine E.CG.quietF (by kernel_rfl) rfl (by kernel_rfl) (by kernel_rfl) ?_
      refine E.GQ.run rfl rfl rfl (E.Runs.move rfl rfl) ?_
      refine E.GQ.run rfl rfl rfl (E.Runs.move rfl rfl) ?_
      refine E.GQ.run rfl rfl rfl (E.Runs.move rfl rfl) ?_
      refine E.GQ.run rfl rfl rfl (E.Runs.indexAddrA rfl rfl rfl hu53 (by assumption) (by assumption) (by assumption) (by first | rfl | assumption) rfl) ?_
      refine E.GQ.run rfl rfl rfl (E.Runs.fieldAddr rfl rfl hu56 rfl (by assumption) rfl) ?_
      refine E.GQ.run rfl rfl rfl (E.Runs.load rfl rfl hu3 (by first | assumption | exact E.blkc (by assumption) rfl | exact pw_cell_below L (by assumption) | exact pw_cell_below lq (by assumption) | exact pw_cell_below L S.c0 | exact pw_cell_below L S.c1 | exact pw_cell_below L S.c2 | exact pw_cell_below L S.c3 | exact pw_cell_below L S.c4 | exact pw_cell_below L S.c5 | exact pw_cell_below lq T.c0 | exact pw_cell_below lq T.c1 | exact pw_cell_below lq T.c2 | exact pw_cell_below lq T.c3 | exact pw_cell_below lq T.c4)) ?_
      refine E.GQ.run rfl rfl rfl (E.Runs.move rfl rfl) ?_
      refine E.GQ.run rfl rfl rfl (E.Runs.move rfl rfl) ?_
      refine E.GQ.run rfl rfl rfl (E.Runs.indexAddrA rfl rfl rfl hu26 (by assumption) (by assumption) (by assumption) (by first | rfl | assumption) rfl) ?_
      refine E.GQ.run rfl rfl rfl (E.Runs.fieldAddr rfl rfl hu36 rfl (by assumption) rfl) ?_
      refine E.GQ.run rfl rfl rfl (E.Runs.load rfl rfl hu3 (by first | assumption | exact E.blkc (by assumption) rfl | exact pw_cell_below L (by assumption) | exact pw_cell_below lq (by assumption) | exact pw_cell_below L S.c0 | exact pw_cell_below L S.c1 | exact pw_cell_below L S.c2 | exact pw_cell_below L S.c3 | exact pw_cell_below L S.c4 | exact pw_cell_below L S.c5 | exact pw_cell_below lq T.c0 | exact pw_cell_below lq T.c1 | exact pw_cell_below lq T.c2 | exact pw_cell_below lq T.c3 | exact pw_cell_below lq T.c4)) ?_
      refine E.GQ.run rfl rfl rfl (E.Runs.sub rfl rfl rfl (IntWalk.i64_in _ (by omega))) ?_
      refine E.GQ.run rfl rfl rfl (E.Runs.assign rfl rfl) ?_
      refine E.GQ.run rfl rfl rfl (E.Runs.assign rfl rfl) ?_
      refine E.GQ.doneB fun v6 lD => ?_
      replace L := below_step L lD
      replace lq := below_step lq lD
      clear lD
      refine E.QG.code ?_
      refine E.CG.ret ?_
      refine E.QG.block_ret ?_
      refine E.QG.pass_ret ?_
      refine E.QG.pass_ret ?_
      refine E.QG.block_ret ?_
      refine E.QG.pass_ret ?_
      exact E.QG.result2 rfl rfl rfl ⟨by rw [hq, lateT_step hs ht, if_pos h30], L⟩
    · refine E.GQ.doneB fun v5 lD => ?_
      replace L := below_step L lD
      replace lq := below_step lq lD
      clear lD
      refine E.QG.code ?_
      refine E.CG.cond_f rfl ?_
      refine E.CG.skip ?_
      refine E.QG.block_normal ?_
      refine E.QG.code ?_
      refine E.CG.list ?_
      refine E.GL.run rfl rfl rfl (E.Runs.move rfl rfl) ?_
      refine E.GL.run rfl rfl rfl (E.Runs.add rfl rfl rfl (IntWalk.i64_in _ (by omega))) ?_
      refine E.GL.run rfl rfl rfl (E.Runs.assign rfl rfl) ?_
      refine E.GL.done ?_
      exact E.QG.round (k + 1) (E.subc rfl (E.subc rfl (E.subc rfl E.subn))) ⟨by omega, lq, by rw [hq, lateT_step hs ht, if_neg h30]; rfl⟩ (by omega)
  · refine E.GL.done ?_
    refine E.QG.code ?_
    refine E.CG.cond_f rfl ?_
    refine E.CG.exit ?_
    refine E.QG.pass_exit ?_
    refine E.QG.pass_exit ?_
    refine E.QG.block_here ?_
    refine E.QG.code ?_
    refine E.CG.seq ?_
    refine E.CG.list ?_
    refine E.GL.run rfl rfl rfl (E.Runs.assign rfl rfl) ?_
    refine E.GL.run rfl rfl rfl (E.Runs.assign rfl rfl) ?_
    refine E.GL.done ?_
    refine E.QG.code ?_
    refine E.CG.ret ?_
    exact E.QG.result2 rfl rfl rfl ⟨by rw [hq, List.drop_eq_nil_of_le (by omega)]; rfl, L⟩

end Go.Proofs.Ythdbkhdiaehblaa.T
