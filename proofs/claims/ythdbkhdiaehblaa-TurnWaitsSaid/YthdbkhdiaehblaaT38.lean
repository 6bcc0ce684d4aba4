/- TurnWaits: Waiting and Crowded tell what the reference tells; the walk. -/
import Derived.Test.YthdbkhdiaehblaaT36
namespace Go.Proofs.Ythdbkhdiaehblaa.T
open Go.RowKit Go.Proofs.YthdbkhdiaehblaaW.PrintWords Go.Proofs.YthdbkhdiaehblaaW.PrintMore
open Go.Proofs.Ythdbkhdiaehblaa.P
set_option linter.unusedVariables false
set_option linter.unusedSimpArgs false

set_option maxRecDepth 100000 in
set_option maxHeartbeats 8000000 in

theorem waits_law (H : Hs) (l : List S36) (m : Int) (A1 : Option Addr) (c1 : Nat) (w : World) (hr : Kd.C k36 w A1 l.length l) (hc : l.length ≤ c1) :
    Calls Try.prog 10 #[hv H, .slice A1 l.length c1, .int .i64 m] w fun e w' => e = .returned (.bool true) ∧ Below w.heap.size w w' := by
  have hu3 := Try.underlying3
  have hu23 := Try.underlying23
  have hu25 := Try.underlying25
  have hu26 := Try.underlying26
  refine E.enter (N := 67) Try.func10 rfl Try.ntmps10 (args := [hv H, .slice A1 l.length c1, .int .i64 m]) (by simp) ?_
  have L := Below.refl w.heap.size w
  refine E.CG.seq ?_
  refine E.CG.list ?_
  refine E.GL.st rfl rfl rfl (E.ST.box rfl rfl fun g3 w3 e3 b3 l3 => ?_)
  have h3_L : w.heap.size ≤ g3 := by rw [e3]; exact L.size
  replace L := below_step L l3
  refine E.GL.run rfl rfl rfl (E.Runs.assign rfl rfl) ?_
  refine E.GL.done ?_
  refine E.QG.code ?_
  refine E.CG.seq ?_
  refine E.CG.seq ?_
  refine E.CG.list ?_
  refine E.GL.run rfl rfl rfl (E.Runs.move rfl rfl) ?_
  by_cases h16 : 40 < l.length
  · refine E.GL.st rfl rfl rfl (E.ST.call rfl ent20 (E.evc rfl E.evn) ((far_row l A1 c1 true (iff_of_true rfl h16) _).mono ?_))
    rintro e w16 ⟨rfl, l16⟩
    refine ⟨_, rfl, ?_⟩
    replace b3 := blk_below b3 l16
    replace L := below_step L l16
    refine E.GL.done ?_
    refine E.QG.code ?_
    refine E.CG.cond_t rfl ?_
    refine E.CG.seq ?_
    refine E.CG.list ?_
    refine E.GL.st rfl rfl rfl (E.ST.call rfl ent14 E.evn ((works_calls _).mono ?_))
    rintro e w17 ⟨rfl, l17⟩
    refine ⟨_, rfl, ?_⟩
    replace b3 := blk_below b3 l17
    replace L := below_step L l17
    refine E.GL.run rfl rfl rfl (E.Runs.assign rfl rfl) ?_
    refine E.GL.done ?_
    refine E.QG.code ?_
    refine E.CG.ret ?_
    refine E.QG.pass_ret ?_
    exact E.QG.result rfl rfl ⟨rfl, L⟩
  · have hn : l.length ≤ 40 := by omega
    refine E.GL.st rfl rfl rfl (E.ST.call rfl ent20 (E.evc rfl E.evn) ((far_row l A1 c1 false (iff_of_false Bool.false_ne_true h16) _).mono ?_))
    rintro e w16 ⟨rfl, l16⟩
    refine ⟨_, rfl, ?_⟩
    replace b3 := blk_below b3 l16
    replace L := below_step L l16
    refine E.GL.done ?_
    refine E.QG.code ?_
    refine E.CG.cond_f rfl ?_
    refine E.CG.skip ?_
    refine E.QG.code ?_
    refine E.CG.seq ?_
    refine E.CG.cut1 (fun (g7 : Nat) => [(1, .slice A1 l.length c1), (2, .int .i64 m), (3, .pointer (some ⟨g3, 0, none⟩)), (7, .pointer (some ⟨g7, 0, none⟩)), (8, .int .i64 (waitE H l m).2.2)]) (fun g7 w' => w'.heap[g7]? = some (.cells #[.int .i64 (waitE H l m).1, .int .i64 (waitE H l m).2.1] 23 (0, 0)) ∧ w'.heap[g3]? = some (.cells #[.int .i64 H.teams, .int .i64 H.walk, .int .i64 H.early, .int .i64 H.foyer, .int .i64 H.dl, .int .i64 H.dh, .int .i64 H.cl, .int .i64 H.ch] 25 (0, 0)) ∧ g3 ≠ g7 ∧ w.heap.size ≤ g7 ∧ Below w.heap.size w w') ?_ ?_
    · refine E.CG.heldH (none) (by kernel_rfl) fun v3 lD hh => ?_
      replace b3 := blk_below b3 lD
      replace L := below_step L lD
      clear lD
      have s_b3 := b3
      have s_L := L
      refine E.GH.take (i := 0) rfl (by kernel_rfl) (by kernel_rfl) (by kernel_rfl) E.calm_cut1 rfl rfl rfl (fun w' hS => (E.Runs.loads (cs := [.int .i64 H.teams, .int .i64 H.walk, .int .i64 H.early, .int .i64 H.foyer, .int .i64 H.dl, .int .i64 H.dh, .int .i64 H.cl, .int .i64 H.ch]) rfl rfl hu25 rfl info25s (blk_cells (blk_grown s_b3 hS E.nen)))) ?_
      refine E.GH.take (i := 1) rfl (by kernel_rfl) (by kernel_rfl) (by kernel_rfl) E.calm_cut1 rfl rfl rfl (fun w' hS => (E.Runs.move rfl rfl)) ?_
      refine E.GH.take (i := 3) rfl (by kernel_rfl) (by kernel_rfl) (by kernel_rfl) E.calm_cut1 rfl rfl rfl (fun w' hS => (E.Runs.move rfl rfl)) ?_
      refine E.GH.all (rs := [2, 8]) (by kernel_rfl) (by simp) (E.GHs.cons rfl ?_ (E.GHs.cons rfl ?_ E.GHs.nil))
      · refine E.GO.st rfl rfl rfl (E.ST.call rfl ent18 (E.evc rfl E.evn) ((copied_row l A1 c1 _ (by omega) (Kd.C_below hr L) hc).mono ?_))
        rintro e w21 ⟨Ao, co, rfl, ko, ro, l21⟩
        refine ⟨_, rfl, hh.trans (E.gbB l21), ?_⟩
        replace hh := hh.trans (E.gbB l21)
        replace b3 := blk_below b3 l21
        replace L := below_step L l21
        have lo := Below.refl w21.heap.size w21
        refine E.GH.all (rs := [4, 8]) (by kernel_rfl) (by simp) (E.GHs.cons rfl ?_ (E.GHs.cons rfl ?_ E.GHs.nil))
        · refine E.GO.st rfl rfl rfl (E.ST.call rfl ent26 (E.evc rfl (E.evc rfl (E.evc rfl E.evn))) ((waiting_own m H l Ao co _ (by omega) (Kd.C_below ro lo) ko).mono ?_))
          rintro e w23 ⟨rfl, l23⟩
          refine ⟨_, rfl, hh.trans (E.gbB l23), ?_⟩
          replace hh := hh.trans (E.gbB l23)
          replace b3 := blk_below b3 l23
          replace L := below_step L l23
          replace lo := below_step lo l23
          refine E.GH.take (i := 5) rfl (by kernel_rfl) (by kernel_rfl) (by kernel_rfl) E.calm_cut1 rfl rfl rfl (fun w' hS => (E.Runs.move rfl rfl)) ?_
          refine E.GH.take (i := 6) rfl (by kernel_rfl) (by kernel_rfl) (by kernel_rfl) E.calm_cut1 rfl rfl rfl (fun w' hS => (E.Runs.extract rfl rfl rfl)) ?_
          refine E.GH.take (i := 7) rfl (by kernel_rfl) (by kernel_rfl) (by kernel_rfl) E.calm_cut1 rfl rfl rfl (fun w' hS => (E.Runs.extract rfl rfl rfl)) ?_
          refine E.GH.one (i := 8) (by kernel_rfl) rfl ?_
          refine E.GO.st rfl rfl rfl (E.ST.alloc rfl info23z fun g7 w7 e7 b7 l7 => ⟨hh.trans (E.gbB l7), ?_⟩)
          have hh0 := hh
          replace hh := hh.trans (E.gbB l7)
          have h7_hh : v3.heap.size ≤ g7 := by rw [e7]; exact hh0.size
          have h7_L : w.heap.size ≤ g7 := by rw [e7]; exact L.size
          have h7_lo : w21.heap.size ≤ g7 := by rw [e7]; exact lo.size
          have n7_b3 : g3 ≠ g7 := by have := blk_lt b3; omega
          clear hh0
          replace b3 := blk_below b3 l7
          replace L := below_step L l7
          replace lo := below_step lo l7
          refine E.GH.one (i := 9) (by kernel_rfl) rfl ?_
          refine E.GO.sn rfl rfl (E.ST.storeS (off := 0) (cells := [.int .i64 (waitE H l m).1, .int .i64 (waitE H l m).2.1]) rfl rfl rfl b7 rfl info23s (two_one _ _) rfl fun wS3_9 c7 lS3_9 => ⟨E.gb_own hh h7_hh lS3_9, ?_⟩)
          replace hh := E.gb_own hh h7_hh lS3_9
          replace b3 := blk_grown b3 lS3_9 (E.nes (by first | assumption | exact Ne.symm (by assumption)))
          replace L := E.below_own L h7_L lS3_9
          replace lo := E.below_own lo h7_lo lS3_9
          replace b7 := c7
          clear c7
          refine E.GH.take (i := 10) rfl (by kernel_rfl) (by kernel_rfl) (by kernel_rfl) E.calm_cut1 rfl rfl rfl (fun w' hS => (E.Runs.assign rfl rfl)) ?_
          refine E.GH.done (by kernel_rfl) ?_
          exact E.QG.meet1 _ (E.subc rfl (E.subc rfl (E.subc rfl (E.subc rfl (E.subc rfl (E.subn)))))) ⟨b7, b3, n7_b3, h7_L, L⟩
        · refine E.GO.st rfl rfl rfl (E.ST.alloc rfl info23z fun g7 w7 e7 b7 l7 => ⟨hh.trans (E.gbB l7), ?_⟩)
          have hh0 := hh
          replace hh := hh.trans (E.gbB l7)
          have h7_hh : v3.heap.size ≤ g7 := by rw [e7]; exact hh0.size
          have h7_L : w.heap.size ≤ g7 := by rw [e7]; exact L.size
          have h7_lo : w21.heap.size ≤ g7 := by rw [e7]; exact lo.size
          have n7_b3 : g3 ≠ g7 := by have := blk_lt b3; omega
          clear hh0
          replace b3 := blk_below b3 l7
          replace L := below_step L l7
          replace lo := below_step lo l7
          refine E.GH.one (i := 4) (by kernel_rfl) rfl ?_
          refine E.GO.st rfl rfl rfl (E.ST.call rfl ent26 (E.evc rfl (E.evc rfl (E.evc rfl E.evn))) ((waiting_own m H l Ao co _ (by omega) (Kd.C_below ro lo) ko).mono ?_))
          rintro e w23 ⟨rfl, l23⟩
          refine ⟨_, rfl, hh.trans (E.gbB l23), ?_⟩
          replace hh := hh.trans (E.gbB l23)
          replace b3 := blk_below b3 l23
          replace b7 := blk_below b7 l23
          replace L := below_step L l23
          replace lo := below_step lo l23
          refine E.GH.take (i := 5) rfl (by kernel_rfl) (by kernel_rfl) (by kernel_rfl) E.calm_cut1 rfl rfl rfl (fun w' hS => (E.Runs.move rfl rfl)) ?_
          refine E.GH.take (i := 6) rfl (by kernel_rfl) (by kernel_rfl) (by kernel_rfl) E.calm_cut1 rfl rfl rfl (fun w' hS => (E.Runs.extract rfl rfl rfl)) ?_
          refine E.GH.take (i := 7) rfl (by kernel_rfl) (by kernel_rfl) (by kernel_rfl) E.calm_cut1 rfl rfl rfl (fun w' hS => (E.Runs.extract rfl rfl rfl)) ?_
          refine E.GH.one (i := 9) (by kernel_rfl) rfl ?_
          refine E.GO.sn rfl rfl (E.ST.storeS (off := 0) (cells := [.int .i64 (waitE H l m).1, .int .i64 (waitE H l m).2.1]) rfl rfl rfl b7 rfl info23s (two_one _ _) rfl fun wS3_9 c7 lS3_9 => ⟨E.gb_own hh h7_hh lS3_9, ?_⟩)
          replace hh := E.gb_own hh h7_hh lS3_9
          replace b3 := blk_grown b3 lS3_9 (E.nes (by first | assumption | exact Ne.symm (by assumption)))
          replace L := E.below_own L h7_L lS3_9
          replace lo := E.below_own lo h7_lo lS3_9
          replace b7 := c7
          clear c7
          refine E.GH.take (i := 10) rfl (by kernel_rfl) (by kernel_rfl) (by kernel_rfl) E.calm_cut1 rfl rfl rfl (fun w' hS => (E.Runs.assign rfl rfl)) ?_
          refine E.GH.done (by kernel_rfl) ?_
          exact E.QG.meet1 _ (E.subc rfl (E.subc rfl (E.subc rfl (E.subc rfl (E.subc rfl (E.subn)))))) ⟨b7, b3, n7_b3, h7_L, L⟩
      · refine E.GO.st rfl rfl rfl (E.ST.alloc rfl info23z fun g7 w7 e7 b7 l7 => ⟨hh.trans (E.gbB l7), ?_⟩)
        have hh0 := hh
        replace hh := hh.trans (E.gbB l7)
        have h7_hh : v3.heap.size ≤ g7 := by rw [e7]; exact hh0.size
        have h7_L : w.heap.size ≤ g7 := by rw [e7]; exact L.size
        have n7_b3 : g3 ≠ g7 := by have := blk_lt b3; omega
        clear hh0
        replace b3 := blk_below b3 l7
        replace L := below_step L l7
        refine E.GH.one (i := 2) (by kernel_rfl) rfl ?_
        refine E.GO.st rfl rfl rfl (E.ST.call rfl ent18 (E.evc rfl E.evn) ((copied_row l A1 c1 _ (by omega) (Kd.C_below hr L) hc).mono ?_))
        rintro e w21 ⟨Ao, co, rfl, ko, ro, l21⟩
        refine ⟨_, rfl, hh.trans (E.gbB l21), ?_⟩
        replace hh := hh.trans (E.gbB l21)
        replace b3 := blk_below b3 l21
        replace b7 := blk_below b7 l21
        replace L := below_step L l21
        have lo := Below.refl w21.heap.size w21
        refine E.GH.one (i := 4) (by kernel_rfl) rfl ?_
        refine E.GO.st rfl rfl rfl (E.ST.call rfl ent26 (E.evc rfl (E.evc rfl (E.evc rfl E.evn))) ((waiting_own m H l Ao co _ (by omega) (Kd.C_below ro lo) ko).mono ?_))
        rintro e w23 ⟨rfl, l23⟩
        refine ⟨_, rfl, hh.trans (E.gbB l23), ?_⟩
        replace hh := hh.trans (E.gbB l23)
        replace b3 := blk_below b3 l23
        replace b7 := blk_below b7 l23
        replace L := below_step L l23
        replace lo := below_step lo l23
        refine E.GH.take (i := 5) rfl (by kernel_rfl) (by kernel_rfl) (by kernel_rfl) E.calm_cut1 rfl rfl rfl (fun w' hS => (E.Runs.move rfl rfl)) ?_
        refine E.GH.take (i := 6) rfl (by kernel_rfl) (by kernel_rfl) (by kernel_rfl) E.calm_cut1 rfl rfl rfl (fun w' hS => (E.Runs.extract rfl rfl rfl)) ?_
        refine E.GH.take (i := 7) rfl (by kernel_rfl) (by kernel_rfl) (by kernel_rfl) E.calm_cut1 rfl rfl rfl (fun w' hS => (E.Runs.extract rfl rfl rfl)) ?_
        refine E.GH.one (i := 9) (by kernel_rfl) rfl ?_
        refine E.GO.sn rfl rfl (E.ST.storeS (off := 0) (cells := [.int .i64 (waitE H l m).1, .int .i64 (waitE H l m).2.1]) rfl rfl rfl b7 rfl info23s (two_one _ _) rfl fun wS3_9 c7 lS3_9 => ⟨E.gb_own hh h7_hh lS3_9, ?_⟩)
        replace hh := E.gb_own hh h7_hh lS3_9
        replace b3 := blk_grown b3 lS3_9 (E.nes (by first | assumption | exact Ne.symm (by assumption)))
        replace L := E.below_own L h7_L lS3_9
        replace b7 := c7
        clear c7
        refine E.GH.take (i := 10) rfl (by kernel_rfl) (by kernel_rfl) (by kernel_rfl) E.calm_cut1 rfl rfl rfl (fun w' hS => (E.Runs.assign rfl rfl)) ?_
        refine E.GH.done (by kernel_rfl) ?_
        exact E.QG.meet1 _ (E.subc rfl (E.subc rfl (E.subc rfl (E.subc rfl (E.subc rfl (E.subn)))))) ⟨b7, b3, n7_b3, h7_L, L⟩
    clear b3 L
    intro g7 w3 ⟨b7, b3, n7_b3, h7_L, L⟩
    refine E.QG.code ?_
    refine E.CG.seq ?_
    refine E.CG.list ?_
    refine E.GL.run rfl rfl rfl (E.Runs.loads (cs := [.int .i64 H.teams, .int .i64 H.walk, .int .i64 H.early, .int .i64 H.foyer, .int .i64 H.dl, .int .i64 H.dh, .int .i64 H.cl, .int .i64 H.ch]) rfl rfl hu25 rfl info25s (blk_cells b3)) ?_
    refine E.GL.run rfl rfl rfl (E.Runs.move rfl rfl) ?_
    refine E.GL.run rfl rfl rfl (E.Runs.move rfl rfl) ?_
    refine E.GL.st rfl rfl rfl (E.ST.call rfl ent33 (E.evc rfl (E.evc rfl (E.evc rfl E.evn))) ((waiting_ref m H l A1 c1 _ (by omega) (Kd.C_below hr L) hc).mono ?_))
    rintro e w30 ⟨rfl, l30⟩
    refine ⟨_, rfl, ?_⟩
    replace b3 := blk_below b3 l30
    replace b7 := blk_below b7 l30
    replace L := below_step L l30
    refine E.GL.run rfl rfl rfl (E.Runs.move rfl rfl) ?_
    refine E.GL.run rfl rfl rfl (E.Runs.extract rfl rfl rfl) ?_
    refine E.GL.run rfl rfl rfl (E.Runs.extract rfl rfl rfl) ?_
    refine E.GL.st rfl rfl rfl (E.ST.alloc rfl info23z fun g9 w9 e9 b9 l9 => ?_)
    have h9_L : w.heap.size ≤ g9 := by rw [e9]; exact L.size
    have n9_b3 : g3 ≠ g9 := by have := blk_lt b3; omega
    have n9_b7 : g7 ≠ g9 := by have := blk_lt b7; omega
    replace b3 := blk_below b3 l9
    replace b7 := blk_below b7 l9
    replace L := below_step L l9
    refine E.GL.store_whole rfl rfl rfl rfl rfl b9 rfl info23s (two_one _ _) fun wS4_8 c9 lS4_8 => ?_
    replace b3 := blk_grown b3 lS4_8 (E.nes (by first | assumption | exact Ne.symm (by assumption)))
    replace b7 := blk_grown b7 lS4_8 (E.nes (by first | assumption | exact Ne.symm (by assumption)))
    replace L := E.below_own L h9_L lS4_8
    replace b9 := c9
    clear c9
    refine E.GL.run rfl rfl rfl (E.Runs.assign rfl rfl) ?_
    refine E.GL.done ?_
    refine E.QG.code ?_
    refine E.CG.seq ?_
    refine E.CG.heldH (none) (by kernel_rfl) fun v5 lD hh => ?_
    replace b3 := blk_below b3 lD
    replace b7 := blk_below b7 lD
    replace b9 := blk_below b9 lD
    replace L := below_step L lD
    clear lD
    have s_b3 := b3
    have s_b7 := b7
    have s_b9 := b9
    have s_L := L
    refine E.GH.take (i := 0) rfl (by kernel_rfl) (by kernel_rfl) (by kernel_rfl) (by intro c a d v w h; cases d <;> exact h) rfl rfl rfl (fun w' hS => (E.Runs.loads (cs := [.int .i64 H.teams, .int .i64 H.walk, .int .i64 H.early, .int .i64 H.foyer, .int .i64 H.dl, .int .i64 H.dh, .int .i64 H.cl, .int .i64 H.ch]) rfl rfl hu25 rfl info25s (blk_cells (blk_grown s_b3 hS E.nen)))) ?_
    refine E.GH.take (i := 1) rfl (by kernel_rfl) (by kernel_rfl) (by kernel_rfl) (by intro c a d v w h; cases d <;> exact h) rfl rfl rfl (fun w' hS => (E.Runs.move rfl rfl)) ?_
    refine E.GH.one (i := 2) (by kernel_rfl) rfl ?_
    refine E.GO.st rfl rfl rfl (E.ST.call rfl ent18 (E.evc rfl E.evn) ((copied_row l A1 c1 _ (by omega) (Kd.C_below hr L) hc).mono ?_))
    rintro e w36 ⟨Ap, cp, rfl, kp, rp, l36⟩
    refine ⟨_, rfl, hh.trans (E.gbB l36), ?_⟩
    replace hh := hh.trans (E.gbB l36)
    replace b3 := blk_below b3 l36
    replace b7 := blk_below b7 l36
    replace b9 := blk_below b9 l36
    replace L := below_step L l36
    have lp := Below.refl w36.heap.size w36
    refine E.GH.one (i := 3) (by kernel_rfl) rfl ?_
    refine E.GO.st rfl rfl rfl (E.ST.call rfl ent27 (E.evc rfl (E.evc rfl E.evn)) ((crowded_own H l Ap cp _ (by omega) (Kd.C_below rp lp) kp).mono ?_))
    rintro e w37 ⟨rfl, l37⟩
    refine ⟨_, rfl, hh.trans (E.gbB l37), ?_⟩
    replace hh := hh.trans (E.gbB l37)
    replace b3 := blk_below b3 l37
    replace b7 := blk_below b7 l37
    replace b9 := blk_below b9 l37
    replace L := below_step L l37
    replace lp := below_step lp l37
    refine E.GH.take (i := 4) rfl (by kernel_rfl) (by kernel_rfl) (by kernel_rfl) (by intro c a d v w h; cases d <;> exact h) rfl rfl rfl (fun w' hS => (E.Runs.move rfl rfl)) ?_
    refine E.GH.take (i := 5) rfl (by kernel_rfl) (by kernel_rfl) (by kernel_rfl) (by intro c a d v w h; cases d <;> exact h) rfl rfl rfl (fun w' hS => (E.Runs.extract rfl rfl rfl)) ?_
    refine E.GH.take (i := 6) rfl (by kernel_rfl) (by kernel_rfl) (by kernel_rfl) (by intro c a d v w h; cases d <;> exact h) rfl rfl rfl (fun w' hS => (E.Runs.extract rfl rfl rfl)) ?_
    refine E.GH.take (i := 7) rfl (by kernel_rfl) (by kernel_rfl) (by kernel_rfl) (by intro c a d v w h; cases d <;> exact h) rfl rfl rfl (fun w' hS => (E.Runs.assign rfl rfl)) ?_
    refine E.GH.take (i := 8) rfl (by kernel_rfl) (by kernel_rfl) (by kernel_rfl) (by intro c a d v w h; cases d <;> exact h) rfl rfl rfl (fun w' hS => (E.Runs.assign rfl rfl)) ?_
    refine E.GH.done (by kernel_rfl) ?_
    refine E.QG.code ?_
    refine E.CG.seq ?_
    refine E.CG.list ?_
    refine E.GL.run rfl rfl rfl (E.Runs.loads (cs := [.int .i64 H.teams, .int .i64 H.walk, .int .i64 H.early, .int .i64 H.foyer, .int .i64 H.dl, .int .i64 H.dh, .int .i64 H.cl, .int .i64 H.ch]) rfl rfl hu25 rfl info25s (blk_cells b3)) ?_
    refine E.GL.run rfl rfl rfl (E.Runs.move rfl rfl) ?_
    refine E.GL.st rfl rfl rfl (E.ST.call rfl ent34 (E.evc rfl (E.evc rfl E.evn)) ((crowded_ref H l A1 c1 _ (by omega) (Kd.C_below hr L) hc).mono ?_))
    rintro e w43 ⟨rfl, l43⟩
    refine ⟨_, rfl, ?_⟩
    replace b3 := blk_below b3 l43
    replace b7 := blk_below b7 l43
    replace b9 := blk_below b9 l43
    replace L := below_step L l43
    replace lp := below_step lp l43
    refine E.GL.run rfl rfl rfl (E.Runs.move rfl rfl) ?_
    refine E.GL.run rfl rfl rfl (E.Runs.extract rfl rfl rfl) ?_
    refine E.GL.run rfl rfl rfl (E.Runs.extract rfl rfl rfl) ?_
    refine E.GL.run rfl rfl rfl (E.Runs.assign rfl rfl) ?_
    refine E.GL.run rfl rfl rfl (E.Runs.assign rfl rfl) ?_
    refine E.GL.done ?_
    refine E.QG.code ?_
    refine E.CG.seq ?_
    refine E.CG.list ?_
    refine E.GL.run rfl rfl rfl (E.Runs.loads (cs := [.int .i64 (waitE H l m).1, .int .i64 (waitE H l m).2.1]) rfl rfl hu23 rfl info23s (blk_cells b7)) ?_
    refine E.GL.run rfl rfl rfl (E.Runs.loads (cs := [.int .i64 (waitE H l m).1, .int .i64 (waitE H l m).2.1]) rfl rfl hu23 rfl info23s (blk_cells b9)) ?_
    refine E.GL.run rfl rfl rfl (E.Runs.eqlv rfl rfl rfl rfl (fun _ _ W => run_eqGuard_agg W _ _ _ _ _ _ Try.eqGuardType23) (equal23 _ _)) ?_
    refine E.GL.run rfl rfl rfl (E.Runs.move rfl rfl) ?_
    refine E.GL.run rfl rfl rfl (E.Runs.move rfl rfl) ?_
    refine E.GL.run rfl rfl rfl (E.Runs.move rfl rfl) ?_
    refine E.GL.run rfl rfl rfl (E.Runs.eql rfl rfl rfl (decide_eq_true rfl)) ?_
    refine E.GL.run rfl rfl rfl (E.Runs.pick_t rfl rfl rfl) ?_
    refine E.GL.run rfl rfl rfl (E.Runs.move rfl rfl) ?_
    refine E.GL.run rfl rfl rfl (E.Runs.move rfl rfl) ?_
    refine E.GL.run rfl rfl rfl (E.Runs.move rfl rfl) ?_
    refine E.GL.run rfl rfl rfl (E.Runs.eql rfl rfl rfl (decide_eq_true rfl)) ?_
    refine E.GL.run rfl rfl rfl (E.Runs.pick_t rfl rfl rfl) ?_
    refine E.GL.run rfl rfl rfl (E.Runs.move rfl rfl) ?_
    refine E.GL.run rfl rfl rfl (E.Runs.move rfl rfl) ?_
    refine E.GL.run rfl rfl rfl (E.Runs.move rfl rfl) ?_
    refine E.GL.run rfl rfl rfl (E.Runs.eql rfl rfl rfl (decide_eq_true rfl)) ?_
    refine E.GL.run rfl rfl rfl (E.Runs.pick_t rfl rfl rfl) ?_
    refine E.GL.run rfl rfl rfl (E.Runs.move rfl rfl) ?_
    refine E.GL.st rfl rfl rfl (E.ST.call rfl ent14 E.evn ((works_calls _).mono ?_))
    rintro e w65 ⟨rfl, l65⟩
    refine ⟨_, rfl, ?_⟩
    replace b3 := blk_below b3 l65
    replace b7 := blk_below b7 l65
    replace b9 := blk_below b9 l65
    replace L := below_step L l65
    replace lp := below_step lp l65
    refine E.GL.run rfl rfl rfl (E.Runs.pick_t rfl rfl rfl) ?_
    refine E.GL.run rfl rfl rfl (E.Runs.assign rfl rfl) ?_
    refine E.GL.done ?_
    refine E.QG.code ?_
    refine E.CG.ret ?_
    exact E.QG.result rfl rfl ⟨rfl, L⟩

end Go.Proofs.Ythdbkhdiaehblaa.T
