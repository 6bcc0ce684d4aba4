/- LampHours: the walk of the law. -/
import Derived.Test.YtbajpjnloikpdaaP14
namespace Go.Proofs.Ytbajpjnloikpdaa.T
open Go.RowKit Go.Proofs.YtbajpjnloikpdaaW.PrintWords Go.Proofs.YtbajpjnloikpdaaW.PrintMore
open Go.Proofs.Ytbajpjnloikpdaa.P
set_option linter.unusedVariables false
set_option linter.unusedSimpArgs false

set_option maxRecDepth 100000 in
set_option maxHeartbeats 8000000 in

theorem hours_law (M : Lm) (A : Option Addr) (c : Nat) (h : Int) (w : World) (hr : Kd.C k64 w A M.gs.length M.gs) :
    Calls Try.prog 6 #[lv M A c, .int .i64 h] w fun e w' => e = .returned (.bool true) ∧ Below w.heap.size w w' := by
  have hu3 := Try.underlying3
  have hu23 := Try.underlying23
  have hu26 := Try.underlying26
  obtain ⟨z3, o3⟩ := info_some info3s (by decide)
  refine E.enter (N := 99) Try.func6 rfl Try.ntmps6 (args := [lv M A c, .int .i64 h]) (by simp) ?_
  have L := Below.refl w.heap.size w
  refine E.CG.seq ?_
  refine E.CG.list ?_
  refine E.GL.st rfl rfl rfl (E.ST.box rfl rfl fun g2 w2 e2 b2 l2 => ?_)
  have h2_L : w.heap.size ≤ g2 := by rw [e2]; exact L.size
  replace L := below_step L l2
  refine E.GL.run rfl rfl rfl (E.Runs.assign rfl rfl) ?_
  refine E.GL.done ?_
  refine E.QG.code ?_
  refine E.CG.seq ?_
  refine E.CG.seq ?_
  refine E.CG.list ?_
  refine E.GL.run rfl rfl rfl (E.Runs.loads (cs := [.int .i64 M.fl, .int .i64 M.fh, .int .i64 M.al, .int .i64 M.ah, .int .i64 M.nl, .int .i64 M.nh, .int .i64 M.ra, .slice A M.gs.length c, .int .i64 M.wr]) rfl rfl hu26 rfl info26s (blk_cells b2)) ?_
  by_cases h21 : far M
  · refine E.GL.st rfl rfl rfl (E.ST.call rfl ent12 (E.evc rfl E.evn) ((far_calls M A c _ true (iff_of_true rfl h21) (Kd.C_below hr L)).mono ?_))
    rintro e w21 ⟨rfl, l21⟩
    refine ⟨_, rfl, ?_⟩
    replace b2 := blk_below b2 l21
    replace L := below_step L l21
    refine E.GL.done ?_
    refine E.QG.code ?_
    refine E.CG.cond_t rfl ?_
    refine E.CG.seq ?_
    refine E.CG.list ?_
    refine E.GL.st rfl rfl rfl (E.ST.call rfl ent13 E.evn ((works_calls _).mono ?_))
    rintro e w22 ⟨rfl, l22⟩
    refine ⟨_, rfl, ?_⟩
    replace b2 := blk_below b2 l22
    replace L := below_step L l22
    refine E.GL.run rfl rfl rfl (E.Runs.assign rfl rfl) ?_
    refine E.GL.done ?_
    refine E.QG.code ?_
    refine E.CG.ret ?_
    refine E.QG.pass_ret ?_
    exact E.QG.result rfl rfl ⟨rfl, L⟩
  · have hg6 := ready_few h21
    refine E.GL.st rfl rfl rfl (E.ST.call rfl ent12 (E.evc rfl E.evn) ((far_calls M A c _ false (iff_of_false Bool.false_ne_true h21) (Kd.C_below hr L)).mono ?_))
    rintro e w21 ⟨rfl, l21⟩
    refine ⟨_, rfl, ?_⟩
    replace b2 := blk_below b2 l21
    replace L := below_step L l21
    refine E.GL.done ?_
    refine E.QG.code ?_
    refine E.CG.cond_f rfl ?_
    refine E.CG.skip ?_
    refine E.QG.code ?_
    refine E.CG.seq ?_
    refine E.CG.list ?_
    refine E.GL.run rfl rfl rfl (E.Runs.loads (cs := [.int .i64 M.fl, .int .i64 M.fh, .int .i64 M.al, .int .i64 M.ah, .int .i64 M.nl, .int .i64 M.nh, .int .i64 M.ra, .slice A M.gs.length c, .int .i64 M.wr]) rfl rfl hu26 rfl info26s (blk_cells b2)) ?_
    refine E.GL.st rfl rfl rfl (E.ST.call rfl ent15 (E.evc rfl E.evn) ((copy_calls M A c _ (Kd.C_below hr L) hg6).mono ?_))
    rintro e w24 ⟨A24, c24, rfl, R24, l24⟩
    refine ⟨_, rfl, ?_⟩
    replace b2 := blk_below b2 l24
    replace L := below_step L l24
    refine E.GL.st rfl rfl rfl (E.ST.alloc rfl info26z fun g5 w5 e5 b5 l5 => ?_)
    have h5_L : w.heap.size ≤ g5 := by rw [e5]; exact L.size
    have n5_b2 : g2 ≠ g5 := by have := blk_lt b2; omega
    have n5_R24 : some g5 ≠ ((Value.slice A24 M.gs.length c24)).ownBlock := fun h => by have := Kd.R_lt R24 _ h.symm; omega
    replace b2 := blk_below b2 l5
    replace R24 := Kd.R_below R24 l5
    replace L := below_step L l5
    refine E.GL.store_whole rfl rfl rfl rfl rfl b5 rfl info26s (nine_one _ _ _ _ _ _ _ _ _ _ _) fun wS3_3 c5 lS3_3 => ?_
    replace b2 := blk_grown b2 lS3_3 (E.nes (by first | assumption | exact Ne.symm (by assumption)))
    replace R24 := Kd.R_grown1 R24 rfl lS3_3 (by first | assumption | exact Kd.R_ne R24 b5 (by decide))
    replace L := E.below_own L h5_L lS3_3
    replace b5 := c5
    clear c5
    refine E.GL.done ?_
    refine E.QG.code ?_
    refine E.CG.seq ?_
    refine E.CG.list ?_
    refine E.GL.run rfl rfl rfl (E.Runs.loads (cs := [.int .i64 M.fl, .int .i64 M.fh, .int .i64 M.al, .int .i64 M.ah, .int .i64 M.nl, .int .i64 M.nh, .int .i64 M.ra, .slice A24 M.gs.length c24, .int .i64 M.wr]) rfl rfl hu26 rfl info26s (blk_cells b5)) ?_
    refine E.GL.run rfl rfl rfl (E.Runs.move rfl rfl) ?_
    refine E.GL.st rfl rfl rfl (E.ST.call rfl ent20 (E.evc rfl (E.evc rfl E.evn)) ((at_calls M A24 c24 h _ ((Kd.R_reads' R24).2.2) hg6).mono ?_))
    rintro e w28 ⟨rfl, l28⟩
    refine ⟨_, rfl, ?_⟩
    replace b2 := blk_below b2 l28
    replace b5 := blk_below b5 l28
    replace R24 := Kd.R_below R24 l28
    replace L := below_step L l28
    refine E.GL.run rfl rfl rfl (E.Runs.move rfl rfl) ?_
    refine E.GL.run rfl rfl rfl (E.Runs.extract rfl rfl rfl) ?_
    refine E.GL.run rfl rfl rfl (E.Runs.extract rfl rfl rfl) ?_
    refine E.GL.st rfl rfl rfl (E.ST.alloc rfl info23z fun g6 w6 e6 b6 l6 => ?_)
    have h6_L : w.heap.size ≤ g6 := by rw [e6]; exact L.size
    have n6_b2 : g2 ≠ g6 := by have := blk_lt b2; omega
    have n6_b5 : g5 ≠ g6 := by have := blk_lt b5; omega
    have n6_R24 : some g6 ≠ ((Value.slice A24 M.gs.length c24)).ownBlock := fun h => by have := Kd.R_lt R24 _ h.symm; omega
    replace b2 := blk_below b2 l6
    replace b5 := blk_below b5 l6
    replace R24 := Kd.R_below R24 l6
    replace L := below_step L l6
    refine E.GL.store_whole rfl rfl rfl rfl rfl b6 rfl info23s (two_one _ _) fun wS4_7 c6 lS4_7 => ?_
    replace b2 := blk_grown b2 lS4_7 (E.nes (by first | assumption | exact Ne.symm (by assumption)))
    replace b5 := blk_grown b5 lS4_7 (E.nes (by first | assumption | exact Ne.symm (by assumption)))
    replace R24 := Kd.R_grown1 R24 rfl lS4_7 (by first | assumption | exact Kd.R_ne R24 b6 (by decide))
    replace L := E.below_own L h6_L lS4_7
    replace b6 := c6
    clear c6
    refine E.GL.run rfl rfl rfl (E.Runs.assign rfl rfl) ?_
    refine E.GL.done ?_
    refine E.QG.code ?_
    refine E.CG.seq ?_
    refine E.CG.list ?_
    refine E.GL.run rfl rfl rfl (E.Runs.loads (cs := [.int .i64 M.fl, .int .i64 M.fh, .int .i64 M.al, .int .i64 M.ah, .int .i64 M.nl, .int .i64 M.nh, .int .i64 M.ra, .slice A M.gs.length c, .int .i64 M.wr]) rfl rfl hu26 rfl info26s (blk_cells b2)) ?_
    refine E.GL.run rfl rfl rfl (E.Runs.move rfl rfl) ?_
    refine E.GL.st rfl rfl rfl (E.ST.call rfl ent26 (E.evc rfl (E.evc rfl E.evn)) ((refat_calls M A c h _ (Kd.C_below hr L) hg6).mono ?_))
    rintro e w34 ⟨rfl, l34⟩
    refine ⟨_, rfl, ?_⟩
    replace b2 := blk_below b2 l34
    replace b5 := blk_below b5 l34
    replace b6 := blk_below b6 l34
    replace R24 := Kd.R_below R24 l34
    replace L := below_step L l34
    refine E.GL.run rfl rfl rfl (E.Runs.move rfl rfl) ?_
    refine E.GL.run rfl rfl rfl (E.Runs.extract rfl rfl rfl) ?_
    refine E.GL.run rfl rfl rfl (E.Runs.extract rfl rfl rfl) ?_
    refine E.GL.st rfl rfl rfl (E.ST.alloc rfl info23z fun g8 w8 e8 b8 l8 => ?_)
    have h8_L : w.heap.size ≤ g8 := by rw [e8]; exact L.size
    have n8_b2 : g2 ≠ g8 := by have := blk_lt b2; omega
    have n8_b5 : g5 ≠ g8 := by have := blk_lt b5; omega
    have n8_b6 : g6 ≠ g8 := by have := blk_lt b6; omega
    have n8_R24 : some g8 ≠ ((Value.slice A24 M.gs.length c24)).ownBlock := fun h => by have := Kd.R_lt R24 _ h.symm; omega
    replace b2 := blk_below b2 l8
    replace b5 := blk_below b5 l8
    replace b6 := blk_below b6 l8
    replace R24 := Kd.R_below R24 l8
    replace L := below_step L l8
    refine E.GL.store_whole rfl rfl rfl rfl rfl b8 rfl info23s (two_one _ _) fun wS5_7 c8 lS5_7 => ?_
    replace b2 := blk_grown b2 lS5_7 (E.nes (by first | assumption | exact Ne.symm (by assumption)))
    replace b5 := blk_grown b5 lS5_7 (E.nes (by first | assumption | exact Ne.symm (by assumption)))
    replace b6 := blk_grown b6 lS5_7 (E.nes (by first | assumption | exact Ne.symm (by assumption)))
    replace R24 := Kd.R_grown1 R24 rfl lS5_7 (by first | assumption | exact Kd.R_ne R24 b8 (by decide))
    replace L := E.below_own L h8_L lS5_7
    replace b8 := c8
    clear c8
    refine E.GL.run rfl rfl rfl (E.Runs.assign rfl rfl) ?_
    refine E.GL.done ?_
    refine E.QG.code ?_
    refine E.CG.seq ?_
    refine E.CG.list ?_
    refine E.GL.run rfl rfl rfl (E.Runs.loads (cs := [.int .i64 M.fl, .int .i64 M.fh, .int .i64 M.al, .int .i64 M.ah, .int .i64 M.nl, .int .i64 M.nh, .int .i64 M.ra, .slice A24 M.gs.length c24, .int .i64 M.wr]) rfl rfl hu26 rfl info26s (blk_cells b5)) ?_
    refine E.GL.run rfl rfl rfl (E.Runs.move rfl rfl) ?_
    refine E.GL.st rfl rfl rfl (E.ST.call rfl ent27 (E.evc rfl (E.evc rfl E.evn)) ((keeps_calls M A24 c24 h _ ((Kd.R_reads' R24).2.2) hg6).mono ?_))
    rintro e w40 ⟨rfl, l40⟩
    refine ⟨_, rfl, ?_⟩
    replace b2 := blk_below b2 l40
    replace b5 := blk_below b5 l40
    replace b6 := blk_below b6 l40
    replace b8 := blk_below b8 l40
    replace R24 := Kd.R_below R24 l40
    replace L := below_step L l40
    refine E.GL.run rfl rfl rfl (E.Runs.move rfl rfl) ?_
    refine E.GL.run rfl rfl rfl (E.Runs.extract rfl rfl rfl) ?_
    refine E.GL.run rfl rfl rfl (E.Runs.extract rfl rfl rfl) ?_
    refine E.GL.run rfl rfl rfl (E.Runs.assign rfl rfl) ?_
    refine E.GL.run rfl rfl rfl (E.Runs.assign rfl rfl) ?_
    refine E.GL.done ?_
    refine E.QG.code ?_
    refine E.CG.seq ?_
    refine E.CG.list ?_
    refine E.GL.run rfl rfl rfl (E.Runs.loads (cs := [.int .i64 M.fl, .int .i64 M.fh, .int .i64 M.al, .int .i64 M.ah, .int .i64 M.nl, .int .i64 M.nh, .int .i64 M.ra, .slice A M.gs.length c, .int .i64 M.wr]) rfl rfl hu26 rfl info26s (blk_cells b2)) ?_
    refine E.GL.run rfl rfl rfl (E.Runs.move rfl rfl) ?_
    refine E.GL.st rfl rfl rfl (E.ST.call rfl ent28 (E.evc rfl (E.evc rfl E.evn)) ((refkeeps_calls M A c h _ (Kd.C_below hr L) hg6).mono ?_))
    rintro e w46 ⟨rfl, l46⟩
    refine ⟨_, rfl, ?_⟩
    replace b2 := blk_below b2 l46
    replace b5 := blk_below b5 l46
    replace b6 := blk_below b6 l46
    replace b8 := blk_below b8 l46
    replace R24 := Kd.R_below R24 l46
    replace L := below_step L l46
    refine E.GL.run rfl rfl rfl (E.Runs.move rfl rfl) ?_
    refine E.GL.run rfl rfl rfl (E.Runs.extract rfl rfl rfl) ?_
    refine E.GL.run rfl rfl rfl (E.Runs.extract rfl rfl rfl) ?_
    refine E.GL.run rfl rfl rfl (E.Runs.assign rfl rfl) ?_
    refine E.GL.run rfl rfl rfl (E.Runs.assign rfl rfl) ?_
    refine E.GL.done ?_
    refine E.QG.code ?_
    refine E.CG.seq ?_
    refine E.CG.list ?_
    refine E.GL.run rfl rfl rfl (E.Runs.loads (cs := [.int .i64 M.fl, .int .i64 M.fh, .int .i64 M.al, .int .i64 M.ah, .int .i64 M.nl, .int .i64 M.nh, .int .i64 M.ra, .slice A24 M.gs.length c24, .int .i64 M.wr]) rfl rfl hu26 rfl info26s (blk_cells b5)) ?_
    refine E.GL.run rfl rfl rfl (E.Runs.move rfl rfl) ?_
    refine E.GL.st rfl rfl rfl (E.ST.call rfl ent21 (E.evc rfl (E.evc rfl E.evn)) ((until_calls M A24 c24 h _ ((Kd.R_reads' R24).2.2) hg6).mono ?_))
    rintro e w52 ⟨rfl, l52⟩
    refine ⟨_, rfl, ?_⟩
    replace b2 := blk_below b2 l52
    replace b5 := blk_below b5 l52
    replace b6 := blk_below b6 l52
    replace b8 := blk_below b8 l52
    replace R24 := Kd.R_below R24 l52
    replace L := below_step L l52
    refine E.GL.run rfl rfl rfl (E.Runs.move rfl rfl) ?_
    refine E.GL.run rfl rfl rfl (E.Runs.extract rfl rfl rfl) ?_
    refine E.GL.run rfl rfl rfl (E.Runs.extract rfl rfl rfl) ?_
    refine E.GL.run rfl rfl rfl (E.Runs.extract rfl rfl rfl) ?_
    refine E.GL.run rfl rfl rfl (E.Runs.assign rfl rfl) ?_
    refine E.GL.run rfl rfl rfl (E.Runs.assign rfl rfl) ?_
    refine E.GL.run rfl rfl rfl (E.Runs.assign rfl rfl) ?_
    refine E.GL.done ?_
    refine E.QG.code ?_
    refine E.CG.seq ?_
    refine E.CG.list ?_
    refine E.GL.run rfl rfl rfl (E.Runs.loads (cs := [.int .i64 M.fl, .int .i64 M.fh, .int .i64 M.al, .int .i64 M.ah, .int .i64 M.nl, .int .i64 M.nh, .int .i64 M.ra, .slice A M.gs.length c, .int .i64 M.wr]) rfl rfl hu26 rfl info26s (blk_cells b2)) ?_
    refine E.GL.run rfl rfl rfl (E.Runs.move rfl rfl) ?_
    refine E.GL.st rfl rfl rfl (E.ST.call rfl ent29 (E.evc rfl (E.evc rfl E.evn)) ((refuntil_calls M A c h _ (Kd.C_below hr L) hg6).mono ?_))
    rintro e w59 ⟨rfl, l59⟩
    refine ⟨_, rfl, ?_⟩
    replace b2 := blk_below b2 l59
    replace b5 := blk_below b5 l59
    replace b6 := blk_below b6 l59
    replace b8 := blk_below b8 l59
    replace R24 := Kd.R_below R24 l59
    replace L := below_step L l59
    refine E.GL.run rfl rfl rfl (E.Runs.move rfl rfl) ?_
    refine E.GL.run rfl rfl rfl (E.Runs.extract rfl rfl rfl) ?_
    refine E.GL.run rfl rfl rfl (E.Runs.extract rfl rfl rfl) ?_
    refine E.GL.run rfl rfl rfl (E.Runs.extract rfl rfl rfl) ?_
    refine E.GL.run rfl rfl rfl (E.Runs.assign rfl rfl) ?_
    refine E.GL.run rfl rfl rfl (E.Runs.assign rfl rfl) ?_
    refine E.GL.run rfl rfl rfl (E.Runs.assign rfl rfl) ?_
    refine E.GL.done ?_
    refine E.QG.code ?_
    refine E.CG.seq ?_
    refine E.CG.list ?_
    refine E.GL.run rfl rfl rfl (E.Runs.loads (cs := [.int .i64 (atV M h).1, .int .i64 (atV M h).2]) rfl rfl hu23 rfl info23s (blk_cells b6)) ?_
    refine E.GL.run rfl rfl rfl (E.Runs.loads (cs := [.int .i64 (atV M h).1, .int .i64 (atV M h).2]) rfl rfl hu23 rfl info23s (blk_cells b8)) ?_
    refine E.GL.run rfl rfl rfl (E.Runs.eqlv rfl rfl rfl rfl (fun _ _ W => run_eqGuard_agg W _ _ _ _ _ _ Try.eqGuardType23) (equal23 _ _)) ?_
    refine E.GL.run rfl rfl rfl (E.Runs.move rfl rfl) ?_
    refine E.GL.run rfl rfl rfl (E.Runs.move rfl rfl) ?_
    refine E.GL.run rfl rfl rfl (E.Runs.move rfl rfl) ?_
    refine E.GL.run rfl rfl rfl (E.Runs.eql rfl rfl rfl (decide_eq_true rfl)) ?_
    refine E.GL.run rfl rfl rfl (E.Runs.pick_t rfl rfl rfl) ?_
    refine E.GL.run rfl rfl rfl (E.Runs.move rfl rfl) ?_
    refine E.GL.run rfl rfl rfl (E.Runs.move rfl rfl) ?_
    refine E.GL.run rfl rfl rfl (E.Runs.move rfl rfl) ?_
    refine E.GL.run rfl rfl rfl (E.Runs.eql rfl rfl rfl (decide_eq_true rfl)) ?_
    refine E.GL.run rfl rfl rfl (E.Runs.pick_t rfl rfl rfl) ?_
    refine E.GL.run rfl rfl rfl (E.Runs.move rfl rfl) ?_
    refine E.GL.run rfl rfl rfl (E.Runs.move rfl rfl) ?_
    refine E.GL.run rfl rfl rfl (E.Runs.move rfl rfl) ?_
    refine E.GL.run rfl rfl rfl (E.Runs.eql rfl rfl rfl (decide_eq_true rfl)) ?_
    refine E.GL.run rfl rfl rfl (E.Runs.pick_t rfl rfl rfl) ?_
    refine E.GL.run rfl rfl rfl (E.Runs.move rfl rfl) ?_
    refine E.GL.run rfl rfl rfl (E.Runs.move rfl rfl) ?_
    refine E.GL.run rfl rfl rfl (E.Runs.move rfl rfl) ?_
    refine E.GL.run rfl rfl rfl (E.Runs.eql rfl rfl rfl (decide_eq_true rfl)) ?_
    refine E.GL.run rfl rfl rfl (E.Runs.pick_t rfl rfl rfl) ?_
    refine E.GL.run rfl rfl rfl (E.Runs.move rfl rfl) ?_
    refine E.GL.run rfl rfl rfl (E.Runs.move rfl rfl) ?_
    refine E.GL.run rfl rfl rfl (E.Runs.move rfl rfl) ?_
    refine E.GL.run rfl rfl rfl (E.Runs.eql rfl rfl rfl (decide_eq_true rfl)) ?_
    refine E.GL.run rfl rfl rfl (E.Runs.pick_t rfl rfl rfl) ?_
    refine E.GL.run rfl rfl rfl (E.Runs.move rfl rfl) ?_
    refine E.GL.run rfl rfl rfl (E.Runs.move rfl rfl) ?_
    refine E.GL.run rfl rfl rfl (E.Runs.move rfl rfl) ?_
    refine E.GL.run rfl rfl rfl (E.Runs.eql rfl rfl rfl (decide_eq_true rfl)) ?_
    refine E.GL.run rfl rfl rfl (E.Runs.pick_t rfl rfl rfl) ?_
    refine E.GL.run rfl rfl rfl (E.Runs.move rfl rfl) ?_
    refine E.GL.st rfl rfl rfl (E.ST.call rfl ent13 E.evn ((works_calls _).mono ?_))
    rintro e w97 ⟨rfl, l97⟩
    refine ⟨_, rfl, ?_⟩
    replace b2 := blk_below b2 l97
    replace b5 := blk_below b5 l97
    replace b6 := blk_below b6 l97
    replace b8 := blk_below b8 l97
    replace R24 := Kd.R_below R24 l97
    replace L := below_step L l97
    refine E.GL.run rfl rfl rfl (E.Runs.pick_t rfl rfl rfl) ?_
    refine E.GL.run rfl rfl rfl (E.Runs.assign rfl rfl) ?_
    refine E.GL.done ?_
    refine E.QG.code ?_
    refine E.CG.ret ?_
    exact E.QG.result rfl rfl ⟨rfl, L⟩

end Go.Proofs.Ytbajpjnloikpdaa.T
