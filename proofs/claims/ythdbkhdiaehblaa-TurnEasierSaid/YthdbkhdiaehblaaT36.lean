/- What the reference tells of waiting, and of times; whether slots are the same: the walks. -/
import Derived.Test.YthdbkhdiaehblaaT35
namespace Go.Proofs.Ythdbkhdiaehblaa.T
open Go.RowKit Go.Proofs.YthdbkhdiaehblaaW.PrintWords Go.Proofs.YthdbkhdiaehblaaW.PrintMore
open Go.Proofs.Ythdbkhdiaehblaa.P
set_option linter.unusedVariables false
set_option linter.unusedSimpArgs false

theorem info23z : (Try.prog.info? 23).map (·.zero) = some (some (.agg #[(.int .i64 0), (.int .i64 0)])) := by kernel_rfl
set_option maxRecDepth 100000 in
set_option maxHeartbeats 8000000 in

theorem waiting_ref (m : Int) (H : Hs) (l : List S36) (A1 : Option Addr) (c1 : Nat) (w : World) (hl : l.length ≤ 1000000000000) (hr : Kd.C k36 w A1 l.length l) (hc : l.length ≤ c1) :
    Calls Try.prog 33 #[hv H, .slice A1 l.length c1, .int .i64 m] w fun e w' => e = .returned (.tuple #[.agg #[.int .i64 (waitE H l m).1, .int .i64 (waitE H l m).2.1], .int .i64 (waitE H l m).2.2]) ∧ Below w.heap.size w w' := by
  have hu3 := Try.underlying3
  have hu23 := Try.underlying23
  have hu25 := Try.underlying25
  have hu26 := Try.underlying26
  obtain ⟨z3, o3⟩ := info_some info3s (by decide)
  refine E.enter (N := 35) Try.func33 rfl Try.ntmps33 (args := [hv H, .slice A1 l.length c1, .int .i64 m]) (by simp) ?_
  have L := Below.refl w.heap.size w
  refine E.CG.seq ?_
  refine E.CG.list ?_
  refine E.GL.st rfl rfl rfl (E.ST.box rfl rfl fun g3 w3 e3 b3 l3 => ?_)
  have h3_L : w.heap.size ≤ g3 := by rw [e3]; exact L.size
  replace L := below_step L l3
  refine E.GL.st rfl rfl rfl (E.ST.alloc rfl info23z fun g6 w6 e6 b6 l6 => ?_)
  have h6_L : w.heap.size ≤ g6 := by rw [e6]; exact L.size
  have n6_b3 : g3 ≠ g6 := by have := blk_lt b3; omega
  replace b3 := blk_below b3 l6
  replace L := below_step L l6
  refine E.GL.run rfl rfl rfl (E.Runs.assign rfl rfl) ?_
  refine E.GL.done ?_
  refine E.QG.code ?_
  refine E.CG.seq ?_
  refine E.CG.seq ?_
  refine E.CG.list ?_
  refine E.GL.run rfl rfl rfl (E.Runs.loads (cs := [.int .i64 H.teams, .int .i64 H.walk, .int .i64 H.early, .int .i64 H.foyer, .int .i64 H.dl, .int .i64 H.dh, .int .i64 H.cl, .int .i64 H.ch]) rfl rfl hu25 rfl info25s (blk_cells b3)) ?_
  refine E.GL.run rfl rfl rfl (E.Runs.move rfl rfl) ?_
  refine E.GL.st rfl rfl rfl (E.ST.call rfl ent19 (E.evc rfl (E.evc rfl E.evn)) ((check_ref H l A1 c1 _ hl (Kd.C_below hr L) hc).mono ?_))
  rintro e w11 ⟨rfl, l11⟩
  refine ⟨_, rfl, ?_⟩
  replace b3 := blk_below b3 l11
  replace b6 := blk_below b6 l11
  replace L := below_step L l11
  refine E.GL.run rfl rfl rfl (E.Runs.assign rfl rfl) ?_
  refine E.GL.done ?_
  refine E.QG.code ?_
  refine E.CG.seq ?_
  refine E.CG.list ?_
  refine E.GL.run rfl rfl rfl (E.Runs.move rfl rfl) ?_
  refine E.GL.cmpn rfl rfl rfl (fun _ h => (E.Runs.neq rfl rfl rfl h)) (fun h13 => ?_) (fun h13 => ?_)
  · refine E.GL.done ?_
    refine E.QG.code ?_
    refine E.CG.cond_t rfl ?_
    refine E.CG.seq ?_
    refine E.CG.list ?_
    refine E.GL.run rfl rfl rfl (E.Runs.build rfl E.epn build23z) ?_
    refine E.GL.run rfl rfl rfl (E.Runs.move rfl rfl) ?_
    refine E.GL.store_whole rfl rfl rfl rfl rfl b6 rfl info23s (two_one _ _) fun wS3_2 c6 lS3_2 => ?_
    replace b3 := blk_grown b3 lS3_2 (E.nes (by first | assumption | exact Ne.symm (by assumption)))
    replace L := E.below_own L h6_L lS3_2
    replace b6 := c6
    clear c6
    refine E.GL.run rfl rfl rfl (E.Runs.assign rfl rfl) ?_
    refine E.GL.done ?_
    refine E.QG.code ?_
    refine E.CG.ret ?_
    refine E.QG.pass_ret ?_
    exact E.QG.result_ct rfl rfl b6 hu23 rfl info23s rfl ⟨by simp only [waitE, if_neg h13], L⟩
  · have V := (checkE_valid H l).mp h13
    have hn := V.2.1
    have hH := V.1
    have hw1 : waitSum (pcR H.dh) H m l (dayT (⟨H.dh, H.walk, H.early⟩ : Rt) (items l (l.map fun s => s.f2.f0) (l.map fun _ => H.cl))) = waitT (pcE H) H l m := by rw [day_E V]; exact waitSum_ra (p := pcR H.dh) (q := pcE H) rfl H _ l _
    have hw2 : waitSum (pcR H.dl) H m l (dayT (⟨H.dl, H.walk, H.early⟩ : Rt) (items l (l.map fun s => s.f2.f1) (l.map fun _ => H.ch))) = waitT (pcL H) H l m := by rw [day_L V]; exact waitSum_ra (p := pcR H.dl) (q := pcL H) rfl H _ l _
    refine E.GL.done ?_
    refine E.QG.code ?_
    refine E.CG.cond_f rfl ?_
    refine E.CG.skip ?_
    refine E.QG.code ?_
    refine E.CG.seq ?_
    refine E.CG.seq ?_
    refine E.CG.list ?_
    refine E.GL.run rfl rfl rfl (E.Runs.move rfl rfl) ?_
    by_cases h17 : 0 ≤ m ∧ m ≤ 9999
    · refine E.GL.st rfl rfl rfl (E.ST.call rfl ent44 (E.evc rfl (E.evc rfl (E.evc rfl E.evn))) ((within_row m 0 9999 true (iff_of_true rfl h17) _).mono ?_))
      rintro e w17 ⟨rfl, l17⟩
      refine ⟨_, rfl, ?_⟩
      replace b3 := blk_below b3 l17
      replace b6 := blk_below b6 l17
      replace L := below_step L l17
      refine E.GL.run rfl rfl rfl (E.Runs.not rfl rfl) ?_
      refine E.GL.done ?_
      refine E.QG.code ?_
      refine E.CG.cond_f rfl ?_
      refine E.CG.skip ?_
      refine E.QG.code ?_
      refine E.CG.seq ?_
      refine E.CG.heldH (some g6) (by kernel_rfl) fun v6 lD hh => ?_
      replace b3 := blk_below b3 lD
      replace b6 := blk_below b6 lD
      replace L := below_step L lD
      clear lD
      have s_b3 := b3
      have s_b6 := b6
      have s_L := L
      refine E.GH.take (i := 0) rfl (by kernel_rfl) (by kernel_rfl) (by kernel_rfl) (by intro c a d v w h; cases d <;> exact h) rfl rfl rfl (fun w' hS => (E.Runs.loads (cs := [.int .i64 H.teams, .int .i64 H.walk, .int .i64 H.early, .int .i64 H.foyer, .int .i64 H.dl, .int .i64 H.dh, .int .i64 H.cl, .int .i64 H.ch]) rfl rfl hu25 rfl info25s (blk_cells (blk_grown s_b3 hS (E.nes n6_b3))))) ?_
      refine E.GH.take (i := 1) rfl (by kernel_rfl) (by kernel_rfl) (by kernel_rfl) (by intro c a d v w h; cases d <;> exact h) rfl rfl rfl (fun w' hS => (E.Runs.move rfl rfl)) ?_
      refine E.GH.take (i := 2) rfl (by kernel_rfl) (by kernel_rfl) (by kernel_rfl) (by intro c a d v w h; cases d <;> exact h) rfl rfl rfl (fun w' hS => (E.Runs.loads (cs := [.int .i64 H.teams, .int .i64 H.walk, .int .i64 H.early, .int .i64 H.foyer, .int .i64 H.dl, .int .i64 H.dh, .int .i64 H.cl, .int .i64 H.ch]) rfl rfl hu25 rfl info25s (blk_cells (blk_grown s_b3 hS (E.nes n6_b3))))) ?_
      refine E.GH.take (i := 3) rfl (by kernel_rfl) (by kernel_rfl) (by kernel_rfl) (by intro c a d v w h; cases d <;> exact h) rfl rfl rfl (fun w' hS => (E.Runs.move rfl rfl)) ?_
      refine E.GH.take (i := 5) rfl (by kernel_rfl) (by kernel_rfl) (by kernel_rfl) (by intro c a d v w h; cases d <;> exact h) rfl rfl rfl (fun w' hS => (E.Runs.move rfl rfl)) ?_
      refine E.GH.take (i := 7) rfl (by kernel_rfl) (by kernel_rfl) (by kernel_rfl) (by intro c a d v w h; cases d <;> exact h) rfl rfl rfl (fun w' hS => (E.Runs.loads (cs := [.int .i64 H.teams, .int .i64 H.walk, .int .i64 H.early, .int .i64 H.foyer, .int .i64 H.dl, .int .i64 H.dh, .int .i64 H.cl, .int .i64 H.ch]) rfl rfl hu25 rfl info25s (blk_cells (blk_grown s_b3 hS (E.nes n6_b3))))) ?_
      refine E.GH.take (i := 8) rfl (by kernel_rfl) (by kernel_rfl) (by kernel_rfl) (by intro c a d v w h; cases d <;> exact h) rfl rfl rfl (fun w' hS => (E.Runs.move rfl rfl)) ?_
      refine E.GH.take (i := 9) rfl (by kernel_rfl) (by kernel_rfl) (by kernel_rfl) (by intro c a d v w h; cases d <;> exact h) rfl rfl rfl (fun w' hS => (E.Runs.loads (cs := [.int .i64 H.teams, .int .i64 H.walk, .int .i64 H.early, .int .i64 H.foyer, .int .i64 H.dl, .int .i64 H.dh, .int .i64 H.cl, .int .i64 H.ch]) rfl rfl hu25 rfl info25s (blk_cells (blk_grown s_b3 hS (E.nes n6_b3))))) ?_
      refine E.GH.take (i := 10) rfl (by kernel_rfl) (by kernel_rfl) (by kernel_rfl) (by intro c a d v w h; cases d <;> exact h) rfl rfl rfl (fun w' hS => (E.Runs.move rfl rfl)) ?_
      refine E.GH.take (i := 12) rfl (by kernel_rfl) (by kernel_rfl) (by kernel_rfl) (by intro c a d v w h; cases d <;> exact h) rfl rfl rfl (fun w' hS => (E.Runs.move rfl rfl)) ?_
      refine E.GH.one (i := 4) (by kernel_rfl) rfl ?_
      refine E.GO.st rfl rfl rfl (E.ST.call rfl ent50 (E.evc rfl (E.evc rfl (E.evc rfl E.evn))) ((bound_early H l A1 c1 _ (by omega) (Kd.C_below hr L) hc).mono ?_))
      rintro e w24 ⟨Ar1, cr1, Ac1, cc1, rfl, C1, D1, l24⟩
      refine ⟨_, rfl, hh.trans (E.gbB l24), ?_⟩
      replace hh := hh.trans (E.gbB l24)
      replace b3 := blk_below b3 l24
      replace b6 := blk_below b6 l24
      replace L := below_step L l24
      refine E.GH.one (i := 6) (by kernel_rfl) rfl ?_
      refine E.GO.st rfl rfl rfl (E.ST.call rfl ent28 (E.evc rfl (E.evc rfl (E.evc rfl (E.evc rfl E.evn)))) ((waits_row H l _ _ H.dh m A1 Ar1 Ac1 c1 cr1 cc1 _ (by omega) (by omega) (rtE hH) (it_E V) (Kd.C_below hr L) hc C1 D1).mono ?_))
      rintro e w26 ⟨rfl, l26⟩
      refine ⟨_, rfl, hh.trans (E.gbB l26), ?_⟩
      replace hh := hh.trans (E.gbB l26)
      replace b3 := blk_below b3 l26
      replace b6 := blk_below b6 l26
      replace L := below_step L l26
      rw [hw1]
      refine E.GH.one (i := 11) (by kernel_rfl) rfl ?_
      refine E.GO.st rfl rfl rfl (E.ST.call rfl ent50 (E.evc rfl (E.evc rfl (E.evc rfl E.evn))) ((bound_late H l A1 c1 _ (by omega) (Kd.C_below hr L) hc).mono ?_))
      rintro e w31 ⟨Ar2, cr2, Ac2, cc2, rfl, C2, D2, l31⟩
      refine ⟨_, rfl, hh.trans (E.gbB l31), ?_⟩
      replace hh := hh.trans (E.gbB l31)
      replace b3 := blk_below b3 l31
      replace b6 := blk_below b6 l31
      replace L := below_step L l31
      refine E.GH.one (i := 13) (by kernel_rfl) rfl ?_
      refine E.GO.st rfl rfl rfl (E.ST.call rfl ent28 (E.evc rfl (E.evc rfl (E.evc rfl (E.evc rfl E.evn)))) ((waits_row H l _ _ H.dl m A1 Ar2 Ac2 c1 cr2 cc2 _ (by omega) (by omega) (rtL hH) (it_L V) (Kd.C_below hr L) hc C2 D2).mono ?_))
      rintro e w33 ⟨rfl, l33⟩
      refine ⟨_, rfl, hh.trans (E.gbB l33), ?_⟩
      replace hh := hh.trans (E.gbB l33)
      replace b3 := blk_below b3 l33
      replace b6 := blk_below b6 l33
      replace L := below_step L l33
      rw [hw2]
      refine E.GH.take (i := 14) rfl (by kernel_rfl) (by kernel_rfl) (by kernel_rfl) (by intro c a d v w h; cases d <;> exact h) rfl rfl rfl (fun w' hS => (E.Runs.build rfl (E.epc rfl (E.epc rfl E.epn)) (build23 _ _))) ?_
      refine E.GH.one (i := 15) (by kernel_rfl) rfl ?_
      refine E.GO.sn rfl rfl (E.ST.storeS (off := 0) (cells := [.int .i64 (waitT (pcE H) H l m), .int .i64 (waitT (pcL H) H l m)]) rfl rfl rfl b6 rfl info23s (two_one _ _) rfl fun wS c6 lS => ⟨hh.trans lS, ?_⟩)
      replace hh := hh.trans lS
      replace L := E.below_own L h6_L lS
      replace b6 := c6
      clear c6
      refine E.GH.take (i := 16) rfl (by kernel_rfl) (by kernel_rfl) (by kernel_rfl) (by intro c a d v w h; cases d <;> exact h) rfl rfl rfl (fun w' hS => (E.Runs.assign rfl rfl)) ?_
      refine E.GH.done (by kernel_rfl) ?_
      refine E.QG.code ?_
      refine E.CG.ret ?_
      exact E.QG.result_ct rfl rfl b6 hu23 rfl info23s rfl ⟨by simp only [waitE, if_pos h13, if_pos h17]; rfl, L⟩
    · refine E.GL.st rfl rfl rfl (E.ST.call rfl ent44 (E.evc rfl (E.evc rfl (E.evc rfl E.evn))) ((within_row m 0 9999 false (iff_of_false Bool.false_ne_true h17) _).mono ?_))
      rintro e w17 ⟨rfl, l17⟩
      refine ⟨_, rfl, ?_⟩
      replace b3 := blk_below b3 l17
      replace b6 := blk_below b6 l17
      replace L := below_step L l17
      refine E.GL.run rfl rfl rfl (E.Runs.not rfl rfl) ?_
      refine E.GL.done ?_
      refine E.QG.code ?_
      refine E.CG.cond_t rfl ?_
      refine E.CG.seq ?_
      refine E.CG.list ?_
      refine E.GL.run rfl rfl rfl (E.Runs.build rfl E.epn build23z) ?_
      refine E.GL.store_whole rfl rfl rfl rfl rfl b6 rfl info23s (two_one _ _) fun wS5_1 c6 lS5_1 => ?_
      replace b3 := blk_grown b3 lS5_1 (E.nes (by first | assumption | exact Ne.symm (by assumption)))
      replace L := E.below_own L h6_L lS5_1
      replace b6 := c6
      clear c6
      refine E.GL.run rfl rfl rfl (E.Runs.assign rfl rfl) ?_
      refine E.GL.done ?_
      refine E.QG.code ?_
      refine E.CG.ret ?_
      refine E.QG.pass_ret ?_
      exact E.QG.result_ct rfl rfl b6 hu23 rfl info23s rfl ⟨by simp only [waitE, if_pos h13, if_neg h17], L⟩

theorem moments_at {H : Hs} {l : List S36} {k : Nat} {t u : Tm} (ht : (earlyDay H l)[k]? = some t) (hu : (lateDay H l)[k]? = some u) : (moments H l).take (k + 1) = (moments H l).take k ++ [mom t u] := by
  have : (moments H l)[k]? = some (mom t u) := by
    unfold moments
    rw [List.getElem?_zipWith]
    have e1 : (allT (pcE H) H (dayAt 6 4) l)[k]? = some t := ht
    have e2 : (allT (pcL H) H (dayAt 6 4) l)[k]? = some u := hu
    rw [e1, e2]
  rw [List.take_add_one, this]
  rfl
set_option maxRecDepth 100000 in
set_option maxHeartbeats 8000000 in

theorem times_ref (H : Hs) (l : List S36) (A1 : Option Addr) (c1 : Nat) (w : World) (hl : l.length ≤ 1000000000000) (hr : Kd.C k36 w A1 l.length l) (hc : l.length ≤ c1) :
    Calls Try.prog 30 #[hv H, .slice A1 l.length c1] w fun e w' => ∃ A c, e = .returned (.tuple #[.slice A (timesE H l).length c, .int .i64 (checkE H l)]) ∧ Kd.C k34 w' A (timesE H l).length (timesE H l) ∧ Below w.heap.size w w' := by
  have hu3 := Try.underlying3
  have hu25 := Try.underlying25
  have hu26 := Try.underlying26
  have hu29 := Try.underlying29
  have hu53 := Try.underlying53
  have hu56 := Try.underlying56
  obtain ⟨z3, o3⟩ := info_some info3s (by decide)
  obtain ⟨z56, o56⟩ := info_some info56s (by decide)
  refine E.enter (N := 95) Try.func30 rfl Try.ntmps30 (args := [hv H, .slice A1 l.length c1]) (by simp) ?_
  have L := Below.refl w.heap.size w
  refine E.CG.seq ?_
  refine E.CG.list ?_
  refine E.GL.st rfl rfl rfl (E.ST.box rfl rfl fun g2 w2 e2 b2 l2 => ?_)
  have h2_L : w.heap.size ≤ g2 := by rw [e2]; exact L.size
  replace L := below_step L l2
  refine E.GL.run rfl rfl rfl (E.Runs.assign rfl rfl) ?_
  refine E.GL.run rfl rfl rfl (E.Runs.assign rfl rfl) ?_
  refine E.GL.done ?_
  refine E.QG.code ?_
  refine E.CG.seq ?_
  refine E.CG.seq ?_
  refine E.CG.list ?_
  refine E.GL.run rfl rfl rfl (E.Runs.loads (cs := [.int .i64 H.teams, .int .i64 H.walk, .int .i64 H.early, .int .i64 H.foyer, .int .i64 H.dl, .int .i64 H.dh, .int .i64 H.cl, .int .i64 H.ch]) rfl rfl hu25 rfl info25s (blk_cells b2)) ?_
  refine E.GL.run rfl rfl rfl (E.Runs.move rfl rfl) ?_
  refine E.GL.st rfl rfl rfl (E.ST.call rfl ent19 (E.evc rfl (E.evc rfl E.evn)) ((check_ref H l A1 c1 _ hl (Kd.C_below hr L) hc).mono ?_))
  rintro e w13 ⟨rfl, l13⟩
  refine ⟨_, rfl, ?_⟩
  replace b2 := blk_below b2 l13
  replace L := below_step L l13
  refine E.GL.run rfl rfl rfl (E.Runs.assign rfl rfl) ?_
  refine E.GL.done ?_
  refine E.QG.code ?_
  refine E.CG.seq ?_
  refine E.CG.list ?_
  refine E.GL.run rfl rfl rfl (E.Runs.move rfl rfl) ?_
  refine E.GL.cmpn rfl rfl rfl (fun _ h => (E.Runs.neq rfl rfl rfl h)) (fun h15 => ?_) (fun h15 => ?_)
  · refine E.GL.done ?_
    refine E.QG.code ?_
    refine E.CG.cond_t rfl ?_
    refine E.CG.seq ?_
    refine E.CG.list ?_
    refine E.GL.run rfl rfl rfl (E.Runs.move rfl rfl) ?_
    refine E.GL.run rfl rfl rfl (E.Runs.assign rfl rfl) ?_
    refine E.GL.run rfl rfl rfl (E.Runs.assign rfl rfl) ?_
    refine E.GL.done ?_
    refine E.QG.code ?_
    refine E.CG.ret ?_
    refine E.QG.pass_ret ?_
    exact E.QG.result2 rfl rfl rfl ⟨none, 0, by simp only [timesE, if_neg h15]; rfl, by simp only [timesE, if_neg h15]; exact Kd.C_nil _ _, L⟩
  · have V := (checkE_valid H l).mp h15
    have hn := V.2.1
    refine E.GL.done ?_
    refine E.QG.code ?_
    refine E.CG.cond_f rfl ?_
    refine E.CG.skip ?_
    refine E.QG.code ?_
    refine E.CG.seq ?_
    refine E.CG.heldH (none) (by kernel_rfl) fun v4 lD hh => ?_
    replace b2 := blk_below b2 lD
    replace L := below_step L lD
    clear lD
    have s_b2 := b2
    have s_L := L
    refine E.GH.take (i := 0) rfl (by kernel_rfl) (by kernel_rfl) (by kernel_rfl) (by intro c a d v w h; cases d <;> exact h) rfl rfl rfl (fun w' hS => (E.Runs.loads (cs := [.int .i64 H.teams, .int .i64 H.walk, .int .i64 H.early, .int .i64 H.foyer, .int .i64 H.dl, .int .i64 H.dh, .int .i64 H.cl, .int .i64 H.ch]) rfl rfl hu25 rfl info25s (blk_cells (blk_grown s_b2 hS E.nen)))) ?_
    refine E.GH.take (i := 1) rfl (by kernel_rfl) (by kernel_rfl) (by kernel_rfl) (by intro c a d v w h; cases d <;> exact h) rfl rfl rfl (fun w' hS => (E.Runs.move rfl rfl)) ?_
    refine E.GH.take (i := 2) rfl (by kernel_rfl) (by kernel_rfl) (by kernel_rfl) (by intro c a d v w h; cases d <;> exact h) rfl rfl rfl (fun w' hS => (E.Runs.loads (cs := [.int .i64 H.teams, .int .i64 H.walk, .int .i64 H.early, .int .i64 H.foyer, .int .i64 H.dl, .int .i64 H.dh, .int .i64 H.cl, .int .i64 H.ch]) rfl rfl hu25 rfl info25s (blk_cells (blk_grown s_b2 hS E.nen)))) ?_
    refine E.GH.take (i := 3) rfl (by kernel_rfl) (by kernel_rfl) (by kernel_rfl) (by intro c a d v w h; cases d <;> exact h) rfl rfl rfl (fun w' hS => (E.Runs.move rfl rfl)) ?_
    refine E.GH.take (i := 6) rfl (by kernel_rfl) (by kernel_rfl) (by kernel_rfl) (by intro c a d v w h; cases d <;> exact h) rfl rfl rfl (fun w' hS => (E.Runs.loads (cs := [.int .i64 H.teams, .int .i64 H.walk, .int .i64 H.early, .int .i64 H.foyer, .int .i64 H.dl, .int .i64 H.dh, .int .i64 H.cl, .int .i64 H.ch]) rfl rfl hu25 rfl info25s (blk_cells (blk_grown s_b2 hS E.nen)))) ?_
    refine E.GH.take (i := 7) rfl (by kernel_rfl) (by kernel_rfl) (by kernel_rfl) (by intro c a d v w h; cases d <;> exact h) rfl rfl rfl (fun w' hS => (E.Runs.move rfl rfl)) ?_
    refine E.GH.take (i := 8) rfl (by kernel_rfl) (by kernel_rfl) (by kernel_rfl) (by intro c a d v w h; cases d <;> exact h) rfl rfl rfl (fun w' hS => (E.Runs.loads (cs := [.int .i64 H.teams, .int .i64 H.walk, .int .i64 H.early, .int .i64 H.foyer, .int .i64 H.dl, .int .i64 H.dh, .int .i64 H.cl, .int .i64 H.ch]) rfl rfl hu25 rfl info25s (blk_cells (blk_grown s_b2 hS E.nen)))) ?_
    refine E.GH.take (i := 9) rfl (by kernel_rfl) (by kernel_rfl) (by kernel_rfl) (by intro c a d v w h; cases d <;> exact h) rfl rfl rfl (fun w' hS => (E.Runs.move rfl rfl)) ?_
    refine E.GH.one (i := 4) (by kernel_rfl) rfl ?_
    refine E.GO.st rfl rfl rfl (E.ST.call rfl ent50 (E.evc rfl (E.evc rfl (E.evc rfl E.evn))) ((bound_early H l A1 c1 _ (by omega) (Kd.C_below hr L) hc).mono ?_))
    rintro e w21 ⟨Ar1, cr1, Ac1, cc1, rfl, C1, D1, l21⟩
    refine ⟨_, rfl, hh.trans (E.gbB l21), ?_⟩
    replace hh := hh.trans (E.gbB l21)
    replace b2 := blk_below b2 l21
    replace L := below_step L l21
    refine E.GH.one (i := 5) (by kernel_rfl) rfl ?_
    refine E.GO.st rfl rfl rfl (E.ST.call rfl ent24 (E.evc rfl (E.evc rfl (E.evc rfl E.evn))) ((run_early H l A1 Ar1 Ac1 c1 cr1 cc1 _ V (Kd.C_below hr L) hc C1 D1).mono ?_))
    rintro e w22 ⟨Ae, ce, rfl, ke, re, l22⟩
    refine ⟨_, rfl, hh.trans (E.gbB l22), ?_⟩
    replace hh := hh.trans (E.gbB l22)
    replace b2 := blk_below b2 l22
    replace L := below_step L l22
    refine E.GH.one (i := 10) (by kernel_rfl) rfl ?_
    refine E.GO.st rfl rfl rfl (E.ST.call rfl ent50 (E.evc rfl (E.evc rfl (E.evc rfl E.evn))) ((bound_late H l A1 c1 _ (by omega) (Kd.C_below hr L) hc).mono ?_))
    rintro e w27 ⟨Ar2, cr2, Ac2, cc2, rfl, C2, D2, l27⟩
    refine ⟨_, rfl, hh.trans (E.gbB l27), ?_⟩
    replace hh := hh.trans (E.gbB l27)
    replace b2 := blk_below b2 l27
    replace L := below_step L l27
    replace re := Kd.C_below re l27
    refine E.GH.one (i := 11) (by kernel_rfl) rfl ?_
    refine E.GO.st rfl rfl rfl (E.ST.call rfl ent24 (E.evc rfl (E.evc rfl (E.evc rfl E.evn))) ((run_late H l A1 Ar2 Ac2 c1 cr2 cc2 _ V (Kd.C_below hr L) hc C2 D2).mono ?_))
    rintro e w28 ⟨Af, cf, rfl, kf, rf, l28⟩
    refine ⟨_, rfl, hh.trans (E.gbB l28), ?_⟩
    replace hh := hh.trans (E.gbB l28)
    replace b2 := blk_below b2 l28
    replace L := below_step L l28
    replace re := Kd.C_below re l28
    refine E.GH.take (i := 12) rfl (by kernel_rfl) (by kernel_rfl) (by kernel_rfl) (by intro c a d v w h; cases d <;> exact h) rfl rfl rfl (fun w' hS => (E.Runs.assign rfl rfl)) ?_
    refine E.GH.take (i := 13) rfl (by kernel_rfl) (by kernel_rfl) (by kernel_rfl) (by intro c a d v w h; cases d <;> exact h) rfl rfl rfl (fun w' hS => (E.Runs.assign rfl rfl)) ?_
    refine E.GH.done (by kernel_rfl) ?_
    refine E.QG.code ?_
    refine E.CG.seq ?_
    refine E.CG.list ?_
    refine E.GL.run rfl rfl rfl (E.Runs.assign rfl rfl) ?_
    refine E.GL.done ?_
    refine E.QG.code ?_
    refine E.CG.seq ?_
    refine E.CG.seq ?_
    refine E.CG.list ?_
    refine E.GL.run rfl rfl rfl (E.Runs.assign rfl rfl) ?_
    refine E.GL.done ?_
    refine E.QG.code ?_
    refine E.CG.block ?_
    have s7_b2 := b2
    have s7_L := L
    refine E.CG.loop2 (fun (k : Nat) (u9 : Value) => [(1, .slice A1 l.length c1), (7, .slice Ae l.length ce), (8, .slice Af l.length cf), (9, u9), (10, .int .i64 k)]) (fun k u9 w' => k ≤ l.length ∧ Kd.R k34 34 w' w28.heap.size (fun _ => True) u9 ((moments H l).take k) ∧ Below w28.heap.size w28 w') (fun k u9 => l.length - k) 0 (.slice none 0 0) (E.subc rfl (E.subc rfl (E.subc rfl (E.subc rfl (E.subc rfl (E.subn)))))) ⟨Nat.zero_le _, Kd.R_nil _ _ _ _ _, Below.refl _ _⟩ ?_
    rintro k u9 w7 ⟨hk, R9, lq⟩
    replace L := below_step L lq
    refine E.CG.seq ?_
    refine E.CG.seq ?_
    refine E.CG.list ?_
    refine E.GL.run rfl rfl rfl (E.Runs.move rfl rfl) ?_
    refine E.GL.run rfl rfl rfl (E.Runs.move rfl rfl) ?_
    refine E.GL.run rfl rfl rfl (E.Runs.len rfl rfl hu26) ?_
    refine E.GL.cmp rfl rfl rfl (fun _ h => (E.Runs.lss rfl rfl rfl h)) (fun h32 => ?_) (fun h32 => ?_)
    · have hlt : k < l.length := by omega
      obtain ⟨t, ht⟩ : ∃ t, (earlyDay H l)[k]? = some t := ⟨_, List.getElem?_eq_getElem (by rw [allT_length]; exact hlt)⟩
      obtain ⟨u, hu⟩ : ∃ t, (lateDay H l)[k]? = some t := ⟨_, List.getElem?_eq_getElem (by rw [allT_length]; exact hlt)⟩
      have hts := moments_at ht hu
      obtain ⟨ae, eT, T⟩ := tm_at re ht
      obtain ⟨af, eU, U⟩ := tm_at rf hu
      refine E.GL.done ?_
      refine E.QG.code ?_
      refine E.CG.cond_t rfl ?_
      refine E.CG.skip ?_
      refine E.QG.code ?_
      refine E.CG.seq ?_
      refine E.CG.block ?_
      have s_R9 := R9
      refine E.CG.heldH (u9.ownBlock) (by kernel_rfl) fun v9 lD hh => ?_
      replace R9 := Kd.R_below R9 lD
      replace L := below_step L lD
      replace lq := below_step lq lD
      clear lD
      have s_L := L
      have s_lq := lq
      refine E.GH.take (i := 0) rfl (by kernel_rfl) (by kernel_rfl) (by kernel_rfl) (by intro c a d v w h; cases d <;> exact h) rfl rfl rfl (fun w' hS => (E.Runs.move rfl rfl)) ?_
      refine E.GH.take (i := 1) rfl (by kernel_rfl) (by kernel_rfl) (by kernel_rfl) (by intro c a d v w h; cases d <;> exact h) rfl rfl rfl (fun w' hS => (E.Runs.move rfl rfl)) ?_
      refine E.GH.take (i := 2) rfl (by kernel_rfl) (by kernel_rfl) (by kernel_rfl) (by intro c a d v w h; cases d <;> exact h) rfl rfl rfl (fun w' hS => (E.Runs.move rfl rfl)) ?_
      refine E.GH.take (i := 3) rfl (by kernel_rfl) (by kernel_rfl) (by kernel_rfl) (by intro c a d v w h; cases d <;> exact h) rfl rfl rfl (fun w' hS => (E.Runs.indexAddrA rfl rfl rfl hu53 (by assumption) (by assumption) (by assumption) (by first | rfl | assumption) rfl)) ?_
      refine E.GH.take (i := 4) rfl (by kernel_rfl) (by kernel_rfl) (by kernel_rfl) (by intro c a d v w h; cases d <;> exact h) rfl rfl rfl (fun w' hS => (E.Runs.fieldAddr rfl rfl hu56 rfl (by assumption) rfl)) ?_
      refine E.GH.take (i := 5) rfl (by kernel_rfl) (by kernel_rfl) (by kernel_rfl) (by intro c a d v w h; cases d <;> exact h) rfl rfl rfl (fun w' hS => (E.Runs.load rfl rfl hu3 (by first | exact E.keeps hS (E.blkc (by assumption) rfl) (by first | exact E.nen | exact E.nes (by assumption) | exact E.nes (Ne.symm (by assumption))) | exact pw_cell_below (below_step s_L (E.belowG hS)) (by assumption) | exact pw_cell_below (pw_below_grown s_lq u9.ownBlock s_lq.size hS (Kd.R_base s_R9)) (by assumption) | exact pw_cell_below (pw_below_grown s_lq u9.ownBlock s_lq.size hS (Kd.R_base s_R9)) T.c0 | exact pw_cell_below (pw_below_grown s_lq u9.ownBlock s_lq.size hS (Kd.R_base s_R9)) T.c1 | exact pw_cell_below (pw_below_grown s_lq u9.ownBlock s_lq.size hS (Kd.R_base s_R9)) T.c2 | exact pw_cell_below (pw_below_grown s_lq u9.ownBlock s_lq.size hS (Kd.R_base s_R9)) T.c3 | exact pw_cell_below (pw_below_grown s_lq u9.ownBlock s_lq.size hS (Kd.R_base s_R9)) T.c4 | exact pw_cell_below (pw_below_grown s_lq u9.ownBlock s_lq.size hS (Kd.R_base s_R9)) U.c0 | exact pw_cell_below (pw_below_grown s_lq u9.ownBlock s_lq.size hS (Kd.R_base s_R9)) U.c1 | exact pw_cell_below (pw_below_grown s_lq u9.ownBlock s_lq.size hS (Kd.R_base s_R9)) U.c2 | exact pw_cell_below (pw_below_grown s_lq u9.ownBlock s_lq.size hS (Kd.R_base s_R9)) U.c3 | exact pw_cell_below (pw_below_grown s_lq u9.ownBlock s_lq.size hS (Kd.R_base s_R9)) U.c4))) ?_
      refine E.GH.take (i := 6) rfl (by kernel_rfl) (by kernel_rfl) (by kernel_rfl) (by intro c a d v w h; cases d <;> exact h) rfl rfl rfl (fun w' hS => (E.Runs.move rfl rfl)) ?_
      refine E.GH.take (i := 7) rfl (by kernel_rfl) (by kernel_rfl) (by kernel_rfl) (by intro c a d v w h; cases d <;> exact h) rfl rfl rfl (fun w' hS => (E.Runs.move rfl rfl)) ?_
      refine E.GH.take (i := 8) rfl (by kernel_rfl) (by kernel_rfl) (by kernel_rfl) (by intro c a d v w h; cases d <;> exact h) rfl rfl rfl (fun w' hS => (E.Runs.indexAddrA rfl rfl rfl hu53 (by assumption) (by assumption) (by assumption) (by first | rfl | assumption) rfl)) ?_
      refine E.GH.take (i := 9) rfl (by kernel_rfl) (by kernel_rfl) (by kernel_rfl) (by intro c a d v w h; cases d <;> exact h) rfl rfl rfl (fun w' hS => (E.Runs.fieldAddr rfl rfl hu56 rfl (by assumption) rfl)) ?_
      refine E.GH.take (i := 10) rfl (by kernel_rfl) (by kernel_rfl) (by kernel_rfl) (by intro c a d v w h; cases d <;> exact h) rfl rfl rfl (fun w' hS => (E.Runs.load rfl rfl hu3 (by first | exact E.keeps hS (E.blkc (by assumption) rfl) (by first | exact E.nen | exact E.nes (by assumption) | exact E.nes (Ne.symm (by assumption))) | exact pw_cell_below (below_step s_L (E.belowG hS)) (by assumption) | exact pw_cell_below (pw_below_grown s_lq u9.ownBlock s_lq.size hS (Kd.R_base s_R9)) (by assumption) | exact pw_cell_below (pw_below_grown s_lq u9.ownBlock s_lq.size hS (Kd.R_base s_R9)) T.c0 | exact pw_cell_below (pw_below_grown s_lq u9.ownBlock s_lq.size hS (Kd.R_base s_R9)) T.c1 | exact pw_cell_below (pw_below_grown s_lq u9.ownBlock s_lq.size hS (Kd.R_base s_R9)) T.c2 | exact pw_cell_below (pw_below_grown s_lq u9.ownBlock s_lq.size hS (Kd.R_base s_R9)) T.c3 | exact pw_cell_below (pw_below_grown s_lq u9.ownBlock s_lq.size hS (Kd.R_base s_R9)) T.c4 | exact pw_cell_below (pw_below_grown s_lq u9.ownBlock s_lq.size hS (Kd.R_base s_R9)) U.c0 | exact pw_cell_below (pw_below_grown s_lq u9.ownBlock s_lq.size hS (Kd.R_base s_R9)) U.c1 | exact pw_cell_below (pw_below_grown s_lq u9.ownBlock s_lq.size hS (Kd.R_base s_R9)) U.c2 | exact pw_cell_below (pw_below_grown s_lq u9.ownBlock s_lq.size hS (Kd.R_base s_R9)) U.c3 | exact pw_cell_below (pw_below_grown s_lq u9.ownBlock s_lq.size hS (Kd.R_base s_R9)) U.c4))) ?_
      refine E.GH.take (i := 11) rfl (by kernel_rfl) (by kernel_rfl) (by kernel_rfl) (by intro c a d v w h; cases d <;> exact h) rfl rfl rfl (fun w' hS => (E.Runs.build rfl (E.epc rfl (E.epc rfl E.epn)) (build23 _ _))) ?_
      refine E.GH.take (i := 12) rfl (by kernel_rfl) (by kernel_rfl) (by kernel_rfl) (by intro c a d v w h; cases d <;> exact h) rfl rfl rfl (fun w' hS => (E.Runs.move rfl rfl)) ?_
      refine E.GH.take (i := 13) rfl (by kernel_rfl) (by kernel_rfl) (by kernel_rfl) (by intro c a d v w h; cases d <;> exact h) rfl rfl rfl (fun w' hS => (E.Runs.move rfl rfl)) ?_
      refine E.GH.take (i := 14) rfl (by kernel_rfl) (by kernel_rfl) (by kernel_rfl) (by intro c a d v w h; cases d <;> exact h) rfl rfl rfl (fun w' hS => (E.Runs.indexAddrA rfl rfl rfl hu53 (by assumption) (by assumption) (by assumption) (by first | rfl | assumption) rfl)) ?_
      refine E.GH.take (i := 15) rfl (by kernel_rfl) (by kernel_rfl) (by kernel_rfl) (by intro c a d v w h; cases d <;> exact h) rfl rfl rfl (fun w' hS => (E.Runs.fieldAddr rfl rfl hu56 rfl (by assumption) rfl)) ?_
      refine E.GH.take (i := 16) rfl (by kernel_rfl) (by kernel_rfl) (by kernel_rfl) (by intro c a d v w h; cases d <;> exact h) rfl rfl rfl (fun w' hS => (E.Runs.load rfl rfl hu3 (by first | exact E.keeps hS (E.blkc (by assumption) rfl) (by first | exact E.nen | exact E.nes (by assumption) | exact E.nes (Ne.symm (by assumption))) | exact pw_cell_below (below_step s_L (E.belowG hS)) (by assumption) | exact pw_cell_below (pw_below_grown s_lq u9.ownBlock s_lq.size hS (Kd.R_base s_R9)) (by assumption) | exact pw_cell_below (pw_below_grown s_lq u9.ownBlock s_lq.size hS (Kd.R_base s_R9)) T.c0 | exact pw_cell_below (pw_below_grown s_lq u9.ownBlock s_lq.size hS (Kd.R_base s_R9)) T.c1 | exact pw_cell_below (pw_below_grown s_lq u9.ownBlock s_lq.size hS (Kd.R_base s_R9)) T.c2 | exact pw_cell_below (pw_below_grown s_lq u9.ownBlock s_lq.size hS (Kd.R_base s_R9)) T.c3 | exact pw_cell_below (pw_below_grown s_lq u9.ownBlock s_lq.size hS (Kd.R_base s_R9)) T.c4 | exact pw_cell_below (pw_below_grown s_lq u9.ownBlock s_lq.size hS (Kd.R_base s_R9)) U.c0 | exact pw_cell_below (pw_below_grown s_lq u9.ownBlock s_lq.size hS (Kd.R_base s_R9)) U.c1 | exact pw_cell_below (pw_below_grown s_lq u9.ownBlock s_lq.size hS (Kd.R_base s_R9)) U.c2 | exact pw_cell_below (pw_below_grown s_lq u9.ownBlock s_lq.size hS (Kd.R_base s_R9)) U.c3 | exact pw_cell_below (pw_below_grown s_lq u9.ownBlock s_lq.size hS (Kd.R_base s_R9)) U.c4))) ?_
      refine E.GH.take (i := 17) rfl (by kernel_rfl) (by kernel_rfl) (by kernel_rfl) (by intro c a d v w h; cases d <;> exact h) rfl rfl rfl (fun w' hS => (E.Runs.move rfl rfl)) ?_
      refine E.GH.take (i := 18) rfl (by kernel_rfl) (by kernel_rfl) (by kernel_rfl) (by intro c a d v w h; cases d <;> exact h) rfl rfl rfl (fun w' hS => (E.Runs.move rfl rfl)) ?_
      refine E.GH.take (i := 19) rfl (by kernel_rfl) (by kernel_rfl) (by kernel_rfl) (by intro c a d v w h; cases d <;> exact h) rfl rfl rfl (fun w' hS => (E.Runs.indexAddrA rfl rfl rfl hu53 (by assumption) (by assumption) (by assumption) (by first | rfl | assumption) rfl)) ?_
      refine E.GH.take (i := 20) rfl (by kernel_rfl) (by kernel_rfl) (by kernel_rfl) (by intro c a d v w h; cases d <;> exact h) rfl rfl rfl (fun w' hS => (E.Runs.fieldAddr rfl rfl hu56 rfl (by assumption) rfl)) ?_
      refine E.GH.take (i := 21) rfl (by kernel_rfl) (by kernel_rfl) (by kernel_rfl) (by intro c a d v w h; cases d <;> exact h) rfl rfl rfl (fun w' hS => (E.Runs.load rfl rfl hu3 (by first | exact E.keeps hS (E.blkc (by assumption) rfl) (by first | exact E.nen | exact E.nes (by assumption) | exact E.nes (Ne.symm (by assumption))) | exact pw_cell_below (below_step s_L (E.belowG hS)) (by assumption) | exact pw_cell_below (pw_below_grown s_lq u9.ownBlock s_lq.size hS (Kd.R_base s_R9)) (by assumption) | exact pw_cell_below (pw_below_grown s_lq u9.ownBlock s_lq.size hS (Kd.R_base s_R9)) T.c0 | exact pw_cell_below (pw_below_grown s_lq u9.ownBlock s_lq.size hS (Kd.R_base s_R9)) T.c1 | exact pw_cell_below (pw_below_grown s_lq u9.ownBlock s_lq.size hS (Kd.R_base s_R9)) T.c2 | exact pw_cell_below (pw_below_grown s_lq u9.ownBlock s_lq.size hS (Kd.R_base s_R9)) T.c3 | exact pw_cell_below (pw_below_grown s_lq u9.ownBlock s_lq.size hS (Kd.R_base s_R9)) T.c4 | exact pw_cell_below (pw_below_grown s_lq u9.ownBlock s_lq.size hS (Kd.R_base s_R9)) U.c0 | exact pw_cell_below (pw_below_grown s_lq u9.ownBlock s_lq.size hS (Kd.R_base s_R9)) U.c1 | exact pw_cell_below (pw_below_grown s_lq u9.ownBlock s_lq.size hS (Kd.R_base s_R9)) U.c2 | exact pw_cell_below (pw_below_grown s_lq u9.ownBlock s_lq.size hS (Kd.R_base s_R9)) U.c3 | exact pw_cell_below (pw_below_grown s_lq u9.ownBlock s_lq.size hS (Kd.R_base s_R9)) U.c4))) ?_
      refine E.GH.take (i := 22) rfl (by kernel_rfl) (by kernel_rfl) (by kernel_rfl) (by intro c a d v w h; cases d <;> exact h) rfl rfl rfl (fun w' hS => (E.Runs.build rfl (E.epc rfl (E.epc rfl E.epn)) (build23 _ _))) ?_
      refine E.GH.take (i := 23) rfl (by kernel_rfl) (by kernel_rfl) (by kernel_rfl) (by intro c a d v w h; cases d <;> exact h) rfl rfl rfl (fun w' hS => (E.Runs.move rfl rfl)) ?_
      refine E.GH.take (i := 24) rfl (by kernel_rfl) (by kernel_rfl) (by kernel_rfl) (by intro c a d v w h; cases d <;> exact h) rfl rfl rfl (fun w' hS => (E.Runs.move rfl rfl)) ?_
      refine E.GH.take (i := 25) rfl (by kernel_rfl) (by kernel_rfl) (by kernel_rfl) (by intro c a d v w h; cases d <;> exact h) rfl rfl rfl (fun w' hS => (E.Runs.indexAddrA rfl rfl rfl hu53 (by assumption) (by assumption) (by assumption) (by first | rfl | assumption) rfl)) ?_
      refine E.GH.take (i := 26) rfl (by kernel_rfl) (by kernel_rfl) (by kernel_rfl) (by intro c a d v w h; cases d <;> exact h) rfl rfl rfl (fun w' hS => (E.Runs.fieldAddr rfl rfl hu56 rfl (by assumption) rfl)) ?_
      refine E.GH.take (i := 27) rfl (by kernel_rfl) (by kernel_rfl) (by kernel_rfl) (by intro c a d v w h; cases d <;> exact h) rfl rfl rfl (fun w' hS => (E.Runs.load rfl rfl hu3 (by first | exact E.keeps hS (E.blkc (by assumption) rfl) (by first | exact E.nen | exact E.nes (by assumption) | exact E.nes (Ne.symm (by assumption))) | exact pw_cell_below (below_step s_L (E.belowG hS)) (by assumption) | exact pw_cell_below (pw_below_grown s_lq u9.ownBlock s_lq.size hS (Kd.R_base s_R9)) (by assumption) | exact pw_cell_below (pw_below_grown s_lq u9.ownBlock s_lq.size hS (Kd.R_base s_R9)) T.c0 | exact pw_cell_below (pw_below_grown s_lq u9.ownBlock s_lq.size hS (Kd.R_base s_R9)) T.c1 | exact pw_cell_below (pw_below_grown s_lq u9.ownBlock s_lq.size hS (Kd.R_base s_R9)) T.c2 | exact pw_cell_below (pw_below_grown s_lq u9.ownBlock s_lq.size hS (Kd.R_base s_R9)) T.c3 | exact pw_cell_below (pw_below_grown s_lq u9.ownBlock s_lq.size hS (Kd.R_base s_R9)) T.c4 | exact pw_cell_below (pw_below_grown s_lq u9.ownBlock s_lq.size hS (Kd.R_base s_R9)) U.c0 | exact pw_cell_below (pw_below_grown s_lq u9.ownBlock s_lq.size hS (Kd.R_base s_R9)) U.c1 | exact pw_cell_below (pw_below_grown s_lq u9.ownBlock s_lq.size hS (Kd.R_base s_R9)) U.c2 | exact pw_cell_below (pw_below_grown s_lq u9.ownBlock s_lq.size hS (Kd.R_base s_R9)) U.c3 | exact pw_cell_below (pw_below_grown s_lq u9.ownBlock s_lq.size hS (Kd.R_base s_R9)) U.c4))) ?_
      refine E.GH.take (i := 28) rfl (by kernel_rfl) (by kernel_rfl) (by kernel_rfl) (by intro c a d v w h; cases d <;> exact h) rfl rfl rfl (fun w' hS => (E.Runs.move rfl rfl)) ?_
      refine E.GH.take (i := 29) rfl (by kernel_rfl) (by kernel_rfl) (by kernel_rfl) (by intro c a d v w h; cases d <;> exact h) rfl rfl rfl (fun w' hS => (E.Runs.move rfl rfl)) ?_
      refine E.GH.take (i := 30) rfl (by kernel_rfl) (by kernel_rfl) (by kernel_rfl) (by intro c a d v w h; cases d <;> exact h) rfl rfl rfl (fun w' hS => (E.Runs.indexAddrA rfl rfl rfl hu53 (by assumption) (by assumption) (by assumption) (by first | rfl | assumption) rfl)) ?_
      refine E.GH.take (i := 31) rfl (by kernel_rfl) (by kernel_rfl) (by kernel_rfl) (by intro c a d v w h; cases d <;> exact h) rfl rfl rfl (fun w' hS => (E.Runs.fieldAddr rfl rfl hu56 rfl (by assumption) rfl)) ?_
      refine E.GH.take (i := 32) rfl (by kernel_rfl) (by kernel_rfl) (by kernel_rfl) (by intro c a d v w h; cases d <;> exact h) rfl rfl rfl (fun w' hS => (E.Runs.load rfl rfl hu3 (by first | exact E.keeps hS (E.blkc (by assumption) rfl) (by first | exact E.nen | exact E.nes (by assumption) | exact E.nes (Ne.symm (by assumption))) | exact pw_cell_below (below_step s_L (E.belowG hS)) (by assumption) | exact pw_cell_below (pw_below_grown s_lq u9.ownBlock s_lq.size hS (Kd.R_base s_R9)) (by assumption) | exact pw_cell_below (pw_below_grown s_lq u9.ownBlock s_lq.size hS (Kd.R_base s_R9)) T.c0 | exact pw_cell_below (pw_below_grown s_lq u9.ownBlock s_lq.size hS (Kd.R_base s_R9)) T.c1 | exact pw_cell_below (pw_below_grown s_lq u9.ownBlock s_lq.size hS (Kd.R_base s_R9)) T.c2 | exact pw_cell_below (pw_below_grown s_lq u9.ownBlock s_lq.size hS (Kd.R_base s_R9)) T.c3 | exact pw_cell_below (pw_below_grown s_lq u9.ownBlock s_lq.size hS (Kd.R_base s_R9)) T.c4 | exact pw_cell_below (pw_below_grown s_lq u9.ownBlock s_lq.size hS (Kd.R_base s_R9)) U.c0 | exact pw_cell_below (pw_below_grown s_lq u9.ownBlock s_lq.size hS (Kd.R_base s_R9)) U.c1 | exact pw_cell_below (pw_below_grown s_lq u9.ownBlock s_lq.size hS (Kd.R_base s_R9)) U.c2 | exact pw_cell_below (pw_below_grown s_lq u9.ownBlock s_lq.size hS (Kd.R_base s_R9)) U.c3 | exact pw_cell_below (pw_below_grown s_lq u9.ownBlock s_lq.size hS (Kd.R_base s_R9)) U.c4))) ?_
      refine E.GH.take (i := 33) rfl (by kernel_rfl) (by kernel_rfl) (by kernel_rfl) (by intro c a d v w h; cases d <;> exact h) rfl rfl rfl (fun w' hS => (E.Runs.build rfl (E.epc rfl (E.epc rfl E.epn)) (build23 _ _))) ?_
      refine E.GH.take (i := 34) rfl (by kernel_rfl) (by kernel_rfl) (by kernel_rfl) (by intro c a d v w h; cases d <;> exact h) rfl rfl rfl (fun w' hS => (E.Runs.move rfl rfl)) ?_
      refine E.GH.take (i := 35) rfl (by kernel_rfl) (by kernel_rfl) (by kernel_rfl) (by intro c a d v w h; cases d <;> exact h) rfl rfl rfl (fun w' hS => (E.Runs.move rfl rfl)) ?_
      refine E.GH.take (i := 36) rfl (by kernel_rfl) (by kernel_rfl) (by kernel_rfl) (by intro c a d v w h; cases d <;> exact h) rfl rfl rfl (fun w' hS => (E.Runs.indexAddrA rfl rfl rfl hu53 (by assumption) (by assumption) (by assumption) (by first | rfl | assumption) rfl)) ?_
      refine E.GH.take (i := 37) rfl (by kernel_rfl) (by kernel_rfl) (by kernel_rfl) (by intro c a d v w h; cases d <;> exact h) rfl rfl rfl (fun w' hS => (E.Runs.fieldAddr rfl rfl hu56 rfl (by assumption) rfl)) ?_
      refine E.GH.take (i := 38) rfl (by kernel_rfl) (by kernel_rfl) (by kernel_rfl) (by intro c a d v w h; cases d <;> exact h) rfl rfl rfl (fun w' hS => (E.Runs.load rfl rfl hu3 (by first | exact E.keeps hS (E.blkc (by assumption) rfl) (by first | exact E.nen | exact E.nes (by assumption) | exact E.nes (Ne.symm (by assumption))) | exact pw_cell_below (below_step s_L (E.belowG hS)) (by assumption) | exact pw_cell_below (pw_below_grown s_lq u9.ownBlock s_lq.size hS (Kd.R_base s_R9)) (by assumption) | exact pw_cell_below (pw_below_grown s_lq u9.ownBlock s_lq.size hS (Kd.R_base s_R9)) T.c0 | exact pw_cell_below (pw_below_grown s_lq u9.ownBlock s_lq.size hS (Kd.R_base s_R9)) T.c1 | exact pw_cell_below (pw_below_grown s_lq u9.ownBlock s_lq.size hS (Kd.R_base s_R9)) T.c2 | exact pw_cell_below (pw_below_grown s_lq u9.ownBlock s_lq.size hS (Kd.R_base s_R9)) T.c3 | exact pw_cell_below (pw_below_grown s_lq u9.ownBlock s_lq.size hS (Kd.R_base s_R9)) T.c4 | exact pw_cell_below (pw_below_grown s_lq u9.ownBlock s_lq.size hS (Kd.R_base s_R9)) U.c0 | exact pw_cell_below (pw_below_grown s_lq u9.ownBlock s_lq.size hS (Kd.R_base s_R9)) U.c1 | exact pw_cell_below (pw_below_grown s_lq u9.ownBlock s_lq.size hS (Kd.R_base s_R9)) U.c2 | exact pw_cell_below (pw_below_grown s_lq u9.ownBlock s_lq.size hS (Kd.R_base s_R9)) U.c3 | exact pw_cell_below (pw_below_grown s_lq u9.ownBlock s_lq.size hS (Kd.R_base s_R9)) U.c4))) ?_
      refine E.GH.take (i := 39) rfl (by kernel_rfl) (by kernel_rfl) (by kernel_rfl) (by intro c a d v w h; cases d <;> exact h) rfl rfl rfl (fun w' hS => (E.Runs.move rfl rfl)) ?_
      refine E.GH.take (i := 40) rfl (by kernel_rfl) (by kernel_rfl) (by kernel_rfl) (by intro c a d v w h; cases d <;> exact h) rfl rfl rfl (fun w' hS => (E.Runs.move rfl rfl)) ?_
      refine E.GH.take (i := 41) rfl (by kernel_rfl) (by kernel_rfl) (by kernel_rfl) (by intro c a d v w h; cases d <;> exact h) rfl rfl rfl (fun w' hS => (E.Runs.indexAddrA rfl rfl rfl hu53 (by assumption) (by assumption) (by assumption) (by first | rfl | assumption) rfl)) ?_
      refine E.GH.take (i := 42) rfl (by kernel_rfl) (by kernel_rfl) (by kernel_rfl) (by intro c a d v w h; cases d <;> exact h) rfl rfl rfl (fun w' hS => (E.Runs.fieldAddr rfl rfl hu56 rfl (by assumption) rfl)) ?_
      refine E.GH.take (i := 43) rfl (by kernel_rfl) (by kernel_rfl) (by kernel_rfl) (by intro c a d v w h; cases d <;> exact h) rfl rfl rfl (fun w' hS => (E.Runs.load rfl rfl hu3 (by first | exact E.keeps hS (E.blkc (by assumption) rfl) (by first | exact E.nen | exact E.nes (by assumption) | exact E.nes (Ne.symm (by assumption))) | exact pw_cell_below (below_step s_L (E.belowG hS)) (by assumption) | exact pw_cell_below (pw_below_grown s_lq u9.ownBlock s_lq.size hS (Kd.R_base s_R9)) (by assumption) | exact pw_cell_below (pw_below_grown s_lq u9.ownBlock s_lq.size hS (Kd.R_base s_R9)) T.c0 | exact pw_cell_below (pw_below_grown s_lq u9.ownBlock s_lq.size hS (Kd.R_base s_R9)) T.c1 | exact pw_cell_below (pw_below_grown s_lq u9.ownBlock s_lq.size hS (Kd.R_base s_R9)) T.c2 | exact pw_cell_below (pw_below_grown s_lq u9.ownBlock s_lq.size hS (Kd.R_base s_R9)) T.c3 | exact pw_cell_below (pw_below_grown s_lq u9.ownBlock s_lq.size hS (Kd.R_base s_R9)) T.c4 | exact pw_cell_below (pw_below_grown s_lq u9.ownBlock s_lq.size hS (Kd.R_base s_R9)) U.c0 | exact pw_cell_below (pw_below_grown s_lq u9.ownBlock s_lq.size hS (Kd.R_base s_R9)) U.c1 | exact pw_cell_below (pw_below_grown s_lq u9.ownBlock s_lq.size hS (Kd.R_base s_R9)) U.c2 | exact pw_cell_below (pw_below_grown s_lq u9.ownBlock s_lq.size hS (Kd.R_base s_R9)) U.c3 | exact pw_cell_below (pw_below_grown s_lq u9.ownBlock s_lq.size hS (Kd.R_base s_R9)) U.c4))) ?_
      refine E.GH.take (i := 44) rfl (by kernel_rfl) (by kernel_rfl) (by kernel_rfl) (by intro c a d v w h; cases d <;> exact h) rfl rfl rfl (fun w' hS => (E.Runs.build rfl (E.epc rfl (E.epc rfl E.epn)) (build23 _ _))) ?_
      refine E.GH.take (i := 45) rfl (by kernel_rfl) (by kernel_rfl) (by kernel_rfl) (by intro c a d v w h; cases d <;> exact h) rfl rfl rfl (fun w' hS => (E.Runs.move rfl rfl)) ?_
      refine E.GH.take (i := 46) rfl (by kernel_rfl) (by kernel_rfl) (by kernel_rfl) (by intro c a d v w h; cases d <;> exact h) rfl rfl rfl (fun w' hS => (E.Runs.move rfl rfl)) ?_
      refine E.GH.take (i := 47) rfl (by kernel_rfl) (by kernel_rfl) (by kernel_rfl) (by intro c a d v w h; cases d <;> exact h) rfl rfl rfl (fun w' hS => (E.Runs.indexAddrA rfl rfl rfl hu53 (by assumption) (by assumption) (by assumption) (by first | rfl | assumption) rfl)) ?_
      refine E.GH.take (i := 48) rfl (by kernel_rfl) (by kernel_rfl) (by kernel_rfl) (by intro c a d v w h; cases d <;> exact h) rfl rfl rfl (fun w' hS => (E.Runs.fieldAddr rfl rfl hu56 rfl (by assumption) rfl)) ?_
      refine E.GH.take (i := 49) rfl (by kernel_rfl) (by kernel_rfl) (by kernel_rfl) (by intro c a d v w h; cases d <;> exact h) rfl rfl rfl (fun w' hS => (E.Runs.load rfl rfl hu3 (by first | exact E.keeps hS (E.blkc (by assumption) rfl) (by first | exact E.nen | exact E.nes (by assumption) | exact E.nes (Ne.symm (by assumption))) | exact pw_cell_below (below_step s_L (E.belowG hS)) (by assumption) | exact pw_cell_below (pw_below_grown s_lq u9.ownBlock s_lq.size hS (Kd.R_base s_R9)) (by assumption) | exact pw_cell_below (pw_below_grown s_lq u9.ownBlock s_lq.size hS (Kd.R_base s_R9)) T.c0 | exact pw_cell_below (pw_below_grown s_lq u9.ownBlock s_lq.size hS (Kd.R_base s_R9)) T.c1 | exact pw_cell_below (pw_below_grown s_lq u9.ownBlock s_lq.size hS (Kd.R_base s_R9)) T.c2 | exact pw_cell_below (pw_below_grown s_lq u9.ownBlock s_lq.size hS (Kd.R_base s_R9)) T.c3 | exact pw_cell_below (pw_below_grown s_lq u9.ownBlock s_lq.size hS (Kd.R_base s_R9)) T.c4 | exact pw_cell_below (pw_below_grown s_lq u9.ownBlock s_lq.size hS (Kd.R_base s_R9)) U.c0 | exact pw_cell_below (pw_below_grown s_lq u9.ownBlock s_lq.size hS (Kd.R_base s_R9)) U.c1 | exact pw_cell_below (pw_below_grown s_lq u9.ownBlock s_lq.size hS (Kd.R_base s_R9)) U.c2 | exact pw_cell_below (pw_below_grown s_lq u9.ownBlock s_lq.size hS (Kd.R_base s_R9)) U.c3 | exact pw_cell_below (pw_below_grown s_lq u9.ownBlock s_lq.size hS (Kd.R_base s_R9)) U.c4))) ?_
      refine E.GH.take (i := 50) rfl (by kernel_rfl) (by kernel_rfl) (by kernel_rfl) (by intro c a d v w h; cases d <;> exact h) rfl rfl rfl (fun w' hS => (E.Runs.move rfl rfl)) ?_
      refine E.GH.take (i := 51) rfl (by kernel_rfl) (by kernel_rfl) (by kernel_rfl) (by intro c a d v w h; cases d <;> exact h) rfl rfl rfl (fun w' hS => (E.Runs.move rfl rfl)) ?_
      refine E.GH.take (i := 52) rfl (by kernel_rfl) (by kernel_rfl) (by kernel_rfl) (by intro c a d v w h; cases d <;> exact h) rfl rfl rfl (fun w' hS => (E.Runs.indexAddrA rfl rfl rfl hu53 (by assumption) (by assumption) (by assumption) (by first | rfl | assumption) rfl)) ?_
      refine E.GH.take (i := 53) rfl (by kernel_rfl) (by kernel_rfl) (by kernel_rfl) (by intro c a d v w h; cases d <;> exact h) rfl rfl rfl (fun w' hS => (E.Runs.fieldAddr rfl rfl hu56 rfl (by assumption) rfl)) ?_
      refine E.GH.take (i := 54) rfl (by kernel_rfl) (by kernel_rfl) (by kernel_rfl) (by intro c a d v w h; cases d <;> exact h) rfl rfl rfl (fun w' hS => (E.Runs.load rfl rfl hu3 (by first | exact E.keeps hS (E.blkc (by assumption) rfl) (by first | exact E.nen | exact E.nes (by assumption) | exact E.nes (Ne.symm (by assumption))) | exact pw_cell_below (below_step s_L (E.belowG hS)) (by assumption) | exact pw_cell_below (pw_below_grown s_lq u9.ownBlock s_lq.size hS (Kd.R_base s_R9)) (by assumption) | exact pw_cell_below (pw_below_grown s_lq u9.ownBlock s_lq.size hS (Kd.R_base s_R9)) T.c0 | exact pw_cell_below (pw_below_grown s_lq u9.ownBlock s_lq.size hS (Kd.R_base s_R9)) T.c1 | exact pw_cell_below (pw_below_grown s_lq u9.ownBlock s_lq.size hS (Kd.R_base s_R9)) T.c2 | exact pw_cell_below (pw_below_grown s_lq u9.ownBlock s_lq.size hS (Kd.R_base s_R9)) T.c3 | exact pw_cell_below (pw_below_grown s_lq u9.ownBlock s_lq.size hS (Kd.R_base s_R9)) T.c4 | exact pw_cell_below (pw_below_grown s_lq u9.ownBlock s_lq.size hS (Kd.R_base s_R9)) U.c0 | exact pw_cell_below (pw_below_grown s_lq u9.ownBlock s_lq.size hS (Kd.R_base s_R9)) U.c1 | exact pw_cell_below (pw_below_grown s_lq u9.ownBlock s_lq.size hS (Kd.R_base s_R9)) U.c2 | exact pw_cell_below (pw_below_grown s_lq u9.ownBlock s_lq.size hS (Kd.R_base s_R9)) U.c3 | exact pw_cell_below (pw_below_grown s_lq u9.ownBlock s_lq.size hS (Kd.R_base s_R9)) U.c4))) ?_
      refine E.GH.take (i := 55) rfl (by kernel_rfl) (by kernel_rfl) (by kernel_rfl) (by intro c a d v w h; cases d <;> exact h) rfl rfl rfl (fun w' hS => (E.Runs.build rfl (E.epc rfl (E.epc rfl E.epn)) (build23 _ _))) ?_
      refine E.GH.take (i := 56) rfl (by kernel_rfl) (by kernel_rfl) (by kernel_rfl) (by intro c a d v w h; cases d <;> exact h) rfl rfl rfl (fun w' hS => (E.Runs.build rfl (E.epc rfl (E.epc rfl (E.epc rfl (E.epc rfl (E.epc rfl E.epn))))) (build34 _ _ _ _ _ _ _ _ _ _))) ?_
      refine E.GH.one (i := 57) (by kernel_rfl) rfl ?_
      refine E.GO.st rfl rfl rfl (E.ST.lit rfl (E.epc rfl E.epn) (lit34 t u) ⟨hh.trans (World.grownBy_alloc _ _ _), ?_⟩)
      refine E.GH.one (i := 58) (by kernel_rfl) rfl ?_
      refine E.GO.st rfl rfl rfl (E.ST.append k34 w28.heap.size (w0 := w28) (s := .tmp 35) (x := .tmp 92) rfl hu29 info34 rfl (by decide) (by decide) (mom t u) rfl rfl (k34_mkM _ _ _ _) (fun _ _ => trivial) R9 lq lq.size (by rw [List.length_take]; omega) fun u93 w93 r93 k93 gr93 => ⟨hh.trans gr93, ?_⟩)
      replace lq := k93
      replace L := below_step s7_L lq
      refine E.GH.take (i := 59) rfl (by kernel_rfl) (by kernel_rfl) (by kernel_rfl) (by intro c a d v w h; cases d <;> exact h) rfl rfl rfl (fun w' hS => (E.Runs.assign rfl rfl)) ?_
      refine E.GH.done (by kernel_rfl) ?_
      refine E.QG.block_normal ?_
      refine E.QG.code ?_
      refine E.CG.list ?_
      refine E.GL.run rfl rfl rfl (E.Runs.move rfl rfl) ?_
      refine E.GL.run rfl rfl rfl (E.Runs.add rfl rfl rfl (IntWalk.i64_in _ (by omega))) ?_
      refine E.GL.run rfl rfl rfl (E.Runs.assign rfl rfl) ?_
      refine E.GL.done ?_
      exact E.QG.round2 (d := u9) (k + 1) _ (E.subc rfl (E.subc rfl (E.subc rfl (E.subc rfl (E.subc rfl E.subn))))) ⟨by omega, by rw [hts]; exact r93, lq⟩ (by omega)
    · obtain rfl : k = l.length := by omega
      rw [List.take_of_length_le (by rw [moments_length]; exact Nat.le_refl _)] at R9
      obtain ⟨A9, c9, h9⟩ := Kd.R_slice R9
      subst h9
      have C9 := (Kd.R_reads' R9).2.2
      refine E.GL.done ?_
      refine E.QG.code ?_
      refine E.CG.cond_f rfl ?_
      refine E.CG.exit ?_
      refine E.QG.pass_exit ?_
      refine E.QG.pass_exit ?_
      refine E.QG.block_here ?_
      refine E.QG.code ?_
      refine E.CG.seq ?_
      refine E.CG.list ?_
      refine E.GL.run rfl rfl rfl (E.Runs.move rfl rfl) ?_
      refine E.GL.run rfl rfl rfl (E.Runs.assign rfl rfl) ?_
      refine E.GL.run rfl rfl rfl (E.Runs.assign rfl rfl) ?_
      refine E.GL.done ?_
      refine E.QG.code ?_
      refine E.CG.ret ?_
      exact E.QG.result2 rfl rfl rfl ⟨A9, c9, by simp only [timesE, if_pos h15]; rw [h15], by simp only [timesE, if_pos h15]; exact C9, L⟩

set_option maxRecDepth 100000 in
set_option maxHeartbeats 8000000 in

theorem same_row (l : List S36) (A1 A2 : Option Addr) (c1 c2 : Nat) (w : World) (h1 : Kd.C k36 w A1 l.length l) (h2 : Kd.C k36 w A2 l.length l) :
    Calls Try.prog 32 #[.slice A1 l.length c1, .slice A2 l.length c2] w fun e w' => e = .returned (.bool true) ∧ Below w.heap.size w w' := by
  have hu26 := Try.underlying26
  have hu36 := Try.underlying36
  obtain ⟨z36, o36⟩ := info_some info36s (by decide)
  have hmax := Kd.C_max h1
  refine E.enter (N := 26) Try.func32 rfl Try.ntmps32 (args := [.slice A1 l.length c1, .slice A2 l.length c2]) (by simp) ?_
  have L := Below.refl w.heap.size w
  refine E.CG.seq ?_
  refine E.CG.list ?_
  refine E.GL.run rfl rfl rfl (E.Runs.assign rfl rfl) ?_
  refine E.GL.done ?_
  refine E.QG.code ?_
  refine E.CG.seq ?_
  refine E.CG.seq ?_
  refine E.CG.list ?_
  refine E.GL.run rfl rfl rfl (E.Runs.move rfl rfl) ?_
  refine E.GL.run rfl rfl rfl (E.Runs.len rfl rfl hu26) ?_
  refine E.GL.run rfl rfl rfl (E.Runs.move rfl rfl) ?_
  refine E.GL.run rfl rfl rfl (E.Runs.len rfl rfl hu26) ?_
  refine E.GL.run rfl rfl rfl (E.Runs.neq rfl rfl rfl (E.ne_f rfl)) ?_
  refine E.GL.done ?_
  refine E.QG.code ?_
  refine E.CG.cond_f rfl ?_
  refine E.CG.skip ?_
  refine E.QG.code ?_
  refine E.CG.seq ?_
  refine E.CG.seq ?_
  refine E.CG.list ?_
  refine E.GL.run rfl rfl rfl (E.Runs.assign rfl rfl) ?_
  refine E.GL.done ?_
  refine E.QG.code ?_
  refine E.CG.block ?_
  have s4_L := L
  refine E.CG.loop (fun (k : Nat) => [(0, .slice A1 l.length c1), (1, .slice A2 l.length c2), (5, .int .i64 k)]) (fun k w' => k ≤ l.length ∧ Below w.heap.size w w') (fun k => l.length - k) 0 (E.subc rfl (E.subc rfl (E.subc rfl (E.subn)))) ⟨Nat.zero_le _, Below.refl _ _⟩ ?_
  rintro k w4 ⟨hk, lq⟩
  replace L := below_step L lq
  refine E.CG.seq ?_
  refine E.CG.seq ?_
  refine E.CG.list ?_
  refine E.GL.run rfl rfl rfl (E.Runs.move rfl rfl) ?_
  refine E.GL.run rfl rfl rfl (E.Runs.move rfl rfl) ?_
  refine E.GL.run rfl rfl rfl (E.Runs.len rfl rfl hu26) ?_
  refine E.GL.cmp rfl rfl rfl (fun _ h => (E.Runs.lss rfl rfl rfl h)) (fun h14 => ?_) (fun h14 => ?_)
  · have hlt : k < l.length := by omega
    obtain ⟨s, hs⟩ : ∃ s, l[k]? = some s := ⟨_, List.getElem?_eq_getElem hlt⟩
    obtain ⟨ad, eA, S⟩ := slot_at h1 hs
    obtain ⟨ae, eB, S2⟩ := slot_at h2 hs
    refine E.GL.done ?_
    refine E.QG.code ?_
    refine E.CG.cond_t rfl ?_
    refine E.CG.skip ?_
    refine E.QG.code ?_
    refine E.CG.seq ?_
    refine E.CG.block ?_
    refine E.CG.seq ?_
    refine E.CG.quietF (by kernel_rfl) rfl (by kernel_rfl) (by kernel_rfl) ?_
    refine E.GQ.run rfl rfl rfl (E.Runs.move rfl rfl) ?_
    refine E.GQ.run rfl rfl rfl (E.Runs.move rfl rfl) ?_
    refine E.GQ.run rfl rfl rfl (E.Runs.indexAddrA rfl rfl rfl hu26 (by assumption) (by assumption) (by assumption) (by first | rfl | assumption) rfl) ?_
    refine E.GQ.run rfl rfl rfl (E.Runs.loads (cs := [.int .i64 s.f0, .int .i64 s.f1, .int .i64 s.f2.f0, .int .i64 s.f2.f1, .int .i64 s.f3, .int .i64 s.f4]) rfl rfl hu36 rfl info36s (E.cellsB L S.cells)) ?_
    refine E.GQ.run rfl rfl rfl (E.Runs.move rfl rfl) ?_
    refine E.GQ.run rfl rfl rfl (E.Runs.move rfl rfl) ?_
    refine E.GQ.run rfl rfl rfl (E.Runs.indexAddrA rfl rfl rfl hu26 (by assumption) (by assumption) (by assumption) (by first | rfl | assumption) rfl) ?_
    refine E.GQ.run rfl rfl rfl (E.Runs.loads (cs := [.int .i64 s.f0, .int .i64 s.f1, .int .i64 s.f2.f0, .int .i64 s.f2.f1, .int .i64 s.f3, .int .i64 s.f4]) rfl rfl hu36 rfl info36s (E.cellsB L S2.cells)) ?_
    refine E.GQ.run rfl rfl rfl (E.Runs.neqv rfl rfl rfl rfl (fun _ _ W => run_eqGuard_agg W _ _ _ _ _ _ Try.eqGuardType36) (equal36 s) rfl) ?_
    refine E.GQ.doneB fun v6 lD => ?_
    replace L := below_step L lD
    replace lq := below_step lq lD
    clear lD
    refine E.QG.code ?_
    refine E.CG.cond_f rfl ?_
    refine E.CG.skip ?_
    refine E.QG.block_normal ?_
    refine E.QG.code ?_
    refine E.CG.list ?_
    refine E.GL.run rfl rfl rfl (E.Runs.move rfl rfl) ?_
    refine E.GL.run rfl rfl rfl (E.Runs.add rfl rfl rfl (IntWalk.i64_in _ (by omega))) ?_
    refine E.GL.run rfl rfl rfl (E.Runs.assign rfl rfl) ?_
    refine E.GL.done ?_
    exact E.QG.round (k + 1) (E.subc rfl (E.subc rfl (E.subc rfl E.subn))) ⟨by omega, lq⟩ (by omega)
  · refine E.GL.done ?_
    refine E.QG.code ?_
    refine E.CG.cond_f rfl ?_
    refine E.CG.exit ?_
    refine E.QG.pass_exit ?_
    refine E.QG.pass_exit ?_
    refine E.QG.block_here ?_
    refine E.QG.code ?_
    refine E.CG.seq ?_
    refine E.CG.list ?_
    refine E.GL.run rfl rfl rfl (E.Runs.assign rfl rfl) ?_
    refine E.GL.done ?_
    refine E.QG.code ?_
    refine E.CG.ret ?_
    exact E.QG.result rfl rfl ⟨rfl, L⟩

end Go.Proofs.Ythdbkhdiaehblaa.T
