/- LampMany: the walk of the law. -/
import Derived.Test.YtbajpjnloikpdaaP19
import Derived.Test.YtbajpjnloikpdaaP13
namespace Go.Proofs.Ytbajpjnloikpdaa.T
open Go.RowKit Go.Proofs.YtbajpjnloikpdaaW.PrintWords Go.Proofs.YtbajpjnloikpdaaW.PrintMore
open Go.Proofs.Ytbajpjnloikpdaa.P
set_option linter.unusedVariables false
set_option linter.unusedSimpArgs false

set_option maxRecDepth 100000 in
theorem equal64 (a b c : Int) (W : World) : (Op.equal 64 (.agg #[.int .i64 a, .int .i64 b, .int .i64 c]) (.agg #[.int .i64 a, .int .i64 b, .int .i64 c])).run Try.prog W = .ok true W := by
  have hu3 := Try.underlying3
  have hu64 := Try.underlying64
  have h64 := Try.stoodInHeld64
  unfold Op.equal Op.maxDepth
  go_simp
theorem blameV_few (M : Lm) : (blameV M).length ≤ M.gs.length := by
  unfold blameV
  split
  · exact blameF_len _ _ _
  · simp
set_option maxRecDepth 100000 in
set_option maxHeartbeats 8000000 in

theorem many_law (M : Lm) (A : Option Addr) (c : Nat) (w : World) (hr : Kd.C k64 w A M.gs.length M.gs) :
    Calls Try.prog 10 #[lv M A c] w fun e w' => e = .returned (.bool true) ∧ Below w.heap.size w w' := by
  have hu3 := Try.underlying3
  have hu24 := Try.underlying24
  have hu26 := Try.underlying26
  have hu64 := Try.underlying64
  obtain ⟨z3, o3⟩ := info_some info3s (by decide)
  obtain ⟨z24, o24⟩ := info_some info24s (by decide)
  obtain ⟨z64, o64⟩ := info_some info64s (by decide)
  refine E.enter (N := 107) Try.func10 rfl Try.ntmps10 (args := [lv M A c]) (by simp) ?_
  have L := Below.refl w.heap.size w
  refine E.CG.seq ?_
  refine E.CG.list ?_
  refine E.GL.st rfl rfl rfl (E.ST.box rfl rfl fun g1 w1 e1 b1 l1 => ?_)
  have h1_L : w.heap.size ≤ g1 := by rw [e1]; exact L.size
  replace L := below_step L l1
  refine E.GL.run rfl rfl rfl (E.Runs.assign rfl rfl) ?_
  refine E.GL.done ?_
  refine E.QG.code ?_
  refine E.CG.seq ?_
  refine E.CG.seq ?_
  refine E.CG.list ?_
  refine E.GL.run rfl rfl rfl (E.Runs.loads (cs := [.int .i64 M.fl, .int .i64 M.fh, .int .i64 M.al, .int .i64 M.ah, .int .i64 M.nl, .int .i64 M.nh, .int .i64 M.ra, .slice A M.gs.length c, .int .i64 M.wr]) rfl rfl hu26 rfl info26s (blk_cells b1)) ?_
  by_cases h18 : far M
  · refine E.GL.st rfl rfl rfl (E.ST.call rfl ent12 (E.evc rfl E.evn) ((far_calls M A c _ true (iff_of_true rfl h18) (Kd.C_below hr L)).mono ?_))
    rintro e w18 ⟨rfl, l18⟩
    refine ⟨_, rfl, ?_⟩
    replace b1 := blk_below b1 l18
    replace L := below_step L l18
    refine E.GL.done ?_
    refine E.QG.code ?_
    refine E.CG.cond_t rfl ?_
    refine E.CG.seq ?_
    refine E.CG.list ?_
    refine E.GL.st rfl rfl rfl (E.ST.call rfl ent13 E.evn ((works_calls _).mono ?_))
    rintro e w19 ⟨rfl, l19⟩
    refine ⟨_, rfl, ?_⟩
    replace b1 := blk_below b1 l19
    replace L := below_step L l19
    refine E.GL.run rfl rfl rfl (E.Runs.assign rfl rfl) ?_
    refine E.GL.done ?_
    refine E.QG.code ?_
    refine E.CG.ret ?_
    refine E.QG.pass_ret ?_
    exact E.QG.result rfl rfl ⟨rfl, L⟩
  · have hg6 := ready_few h18
    have hbf := blameV_few M
    refine E.GL.st rfl rfl rfl (E.ST.call rfl ent12 (E.evc rfl E.evn) ((far_calls M A c _ false (iff_of_false Bool.false_ne_true h18) (Kd.C_below hr L)).mono ?_))
    rintro e w18 ⟨rfl, l18⟩
    refine ⟨_, rfl, ?_⟩
    replace b1 := blk_below b1 l18
    replace L := below_step L l18
    refine E.GL.done ?_
    refine E.QG.code ?_
    refine E.CG.cond_f rfl ?_
    refine E.CG.skip ?_
    refine E.QG.code ?_
    refine E.CG.seq ?_
    refine E.CG.list ?_
    refine E.GL.run rfl rfl rfl (E.Runs.loads (cs := [.int .i64 M.fl, .int .i64 M.fh, .int .i64 M.al, .int .i64 M.ah, .int .i64 M.nl, .int .i64 M.nh, .int .i64 M.ra, .slice A M.gs.length c, .int .i64 M.wr]) rfl rfl hu26 rfl info26s (blk_cells b1)) ?_
    have hs21 := L.size
    refine E.GL.st rfl rfl rfl (E.ST.call rfl ent15 (E.evc rfl E.evn) ((copy_calls M A c _ (Kd.C_below hr L) hg6).mono ?_))
    rintro e w21 ⟨A21, c21, rfl, R21, l21⟩
    refine ⟨_, rfl, ?_⟩
    replace b1 := blk_below b1 l21
    replace L := below_step L l21
    have lo := Below.refl w21.heap.size w21
    replace R21 := Kd.R_lower R21 hs21
    have C21 := (Kd.R_reads' R21).2.2
    refine E.GL.st rfl rfl rfl (E.ST.alloc rfl info26z fun g3 w3 e3 b3 l3 => ?_)
    have h3_L : w.heap.size ≤ g3 := by rw [e3]; exact L.size
    have h3_lo : w21.heap.size ≤ g3 := by rw [e3]; exact lo.size
    have n3_b1 : g1 ≠ g3 := by have := blk_lt b1; omega
    have n3_R21 : some g3 ≠ ((Value.slice A21 M.gs.length c21)).ownBlock := fun h => by have := Kd.R_lt R21 _ h.symm; omega
    replace b1 := blk_below b1 l3
    replace R21 := Kd.R_below R21 l3
    replace L := below_step L l3
    replace lo := below_step lo l3
    refine E.GL.store_whole rfl rfl rfl rfl rfl b3 rfl info26s (nine_one _ _ _ _ _ _ _ _ _ _ _) fun wS3_3 c3 lS3_3 => ?_
    replace b1 := blk_grown b1 lS3_3 (E.nes (by first | assumption | exact Ne.symm (by assumption)))
    replace R21 := Kd.R_grown1 R21 rfl lS3_3 (by first | assumption | exact Kd.R_ne R21 b3 (by decide))
    replace L := E.below_own L h3_L lS3_3
    replace lo := E.below_own lo h3_lo lS3_3
    replace b3 := c3
    clear c3
    refine E.GL.done ?_
    refine E.QG.code ?_
    refine E.CG.seq ?_
    refine E.CG.list ?_
    refine E.GL.run rfl rfl rfl (E.Runs.loads (cs := [.int .i64 M.fl, .int .i64 M.fh, .int .i64 M.al, .int .i64 M.ah, .int .i64 M.nl, .int .i64 M.nh, .int .i64 M.ra, .slice A21 M.gs.length c21, .int .i64 M.wr]) rfl rfl hu26 rfl info26s (blk_cells b3)) ?_
    refine E.GL.st rfl rfl rfl (E.ST.call rfl ent33 (E.evc rfl E.evn) ((many_calls M A21 c21 _ ((Kd.R_reads' R21).2.2) hg6).mono ?_))
    rintro e w24 ⟨rfl, l24⟩
    refine ⟨_, rfl, ?_⟩
    replace b1 := blk_below b1 l24
    replace b3 := blk_below b3 l24
    replace R21 := Kd.R_below R21 l24
    replace L := below_step L l24
    replace lo := below_step lo l24
    refine E.GL.run rfl rfl rfl (E.Runs.move rfl rfl) ?_
    refine E.GL.run rfl rfl rfl (E.Runs.extract rfl rfl rfl) ?_
    refine E.GL.run rfl rfl rfl (E.Runs.extract rfl rfl rfl) ?_
    refine E.GL.run rfl rfl rfl (E.Runs.assign rfl rfl) ?_
    refine E.GL.run rfl rfl rfl (E.Runs.assign rfl rfl) ?_
    refine E.GL.done ?_
    refine E.QG.code ?_
    refine E.CG.seq ?_
    refine E.CG.list ?_
    refine E.GL.run rfl rfl rfl (E.Runs.loads (cs := [.int .i64 M.fl, .int .i64 M.fh, .int .i64 M.al, .int .i64 M.ah, .int .i64 M.nl, .int .i64 M.nh, .int .i64 M.ra, .slice A M.gs.length c, .int .i64 M.wr]) rfl rfl hu26 rfl info26s (blk_cells b1)) ?_
    refine E.GL.st rfl rfl rfl (E.ST.call rfl ent35 (E.evc rfl E.evn) ((refmany_calls M A c _ (Kd.C_below hr L) hg6).mono ?_))
    rintro e w29 ⟨rfl, l29⟩
    refine ⟨_, rfl, ?_⟩
    replace b1 := blk_below b1 l29
    replace b3 := blk_below b3 l29
    replace R21 := Kd.R_below R21 l29
    replace L := below_step L l29
    replace lo := below_step lo l29
    refine E.GL.run rfl rfl rfl (E.Runs.move rfl rfl) ?_
    refine E.GL.run rfl rfl rfl (E.Runs.extract rfl rfl rfl) ?_
    refine E.GL.run rfl rfl rfl (E.Runs.extract rfl rfl rfl) ?_
    refine E.GL.run rfl rfl rfl (E.Runs.assign rfl rfl) ?_
    refine E.GL.run rfl rfl rfl (E.Runs.assign rfl rfl) ?_
    refine E.GL.done ?_
    refine E.QG.code ?_
    refine E.CG.seq ?_
    refine E.CG.list ?_
    refine E.GL.run rfl rfl rfl (E.Runs.loads (cs := [.int .i64 M.fl, .int .i64 M.fh, .int .i64 M.al, .int .i64 M.ah, .int .i64 M.nl, .int .i64 M.nh, .int .i64 M.ra, .slice A21 M.gs.length c21, .int .i64 M.wr]) rfl rfl hu26 rfl info26s (blk_cells b3)) ?_
    refine E.GL.st rfl rfl rfl (E.ST.call rfl ent36 (E.evc rfl E.evn) ((few_calls M A21 c21 _ ((Kd.R_reads' R21).2.2) hg6).mono ?_))
    rintro e w34 ⟨rfl, l34⟩
    refine ⟨_, rfl, ?_⟩
    replace b1 := blk_below b1 l34
    replace b3 := blk_below b3 l34
    replace R21 := Kd.R_below R21 l34
    replace L := below_step L l34
    replace lo := below_step lo l34
    refine E.GL.run rfl rfl rfl (E.Runs.move rfl rfl) ?_
    refine E.GL.run rfl rfl rfl (E.Runs.extract rfl rfl rfl) ?_
    refine E.GL.run rfl rfl rfl (E.Runs.extract rfl rfl rfl) ?_
    refine E.GL.run rfl rfl rfl (E.Runs.assign rfl rfl) ?_
    refine E.GL.run rfl rfl rfl (E.Runs.assign rfl rfl) ?_
    refine E.GL.done ?_
    refine E.QG.code ?_
    refine E.CG.seq ?_
    refine E.CG.list ?_
    refine E.GL.run rfl rfl rfl (E.Runs.loads (cs := [.int .i64 M.fl, .int .i64 M.fh, .int .i64 M.al, .int .i64 M.ah, .int .i64 M.nl, .int .i64 M.nh, .int .i64 M.ra, .slice A M.gs.length c, .int .i64 M.wr]) rfl rfl hu26 rfl info26s (blk_cells b1)) ?_
    refine E.GL.st rfl rfl rfl (E.ST.call rfl ent37 (E.evc rfl E.evn) ((reffew_calls M A c _ (Kd.C_below hr L) hg6).mono ?_))
    rintro e w39 ⟨rfl, l39⟩
    refine ⟨_, rfl, ?_⟩
    replace b1 := blk_below b1 l39
    replace b3 := blk_below b3 l39
    replace R21 := Kd.R_below R21 l39
    replace L := below_step L l39
    replace lo := below_step lo l39
    refine E.GL.run rfl rfl rfl (E.Runs.move rfl rfl) ?_
    refine E.GL.run rfl rfl rfl (E.Runs.extract rfl rfl rfl) ?_
    refine E.GL.run rfl rfl rfl (E.Runs.extract rfl rfl rfl) ?_
    refine E.GL.run rfl rfl rfl (E.Runs.assign rfl rfl) ?_
    refine E.GL.run rfl rfl rfl (E.Runs.assign rfl rfl) ?_
    refine E.GL.done ?_
    refine E.QG.code ?_
    refine E.CG.seq ?_
    refine E.CG.list ?_
    refine E.GL.run rfl rfl rfl (E.Runs.loads (cs := [.int .i64 M.fl, .int .i64 M.fh, .int .i64 M.al, .int .i64 M.ah, .int .i64 M.nl, .int .i64 M.nh, .int .i64 M.ra, .slice A21 M.gs.length c21, .int .i64 M.wr]) rfl rfl hu26 rfl info26s (blk_cells b3)) ?_
    refine E.GL.st rfl rfl rfl (E.ST.call rfl ent34 (E.evc rfl E.evn) ((blame_calls M A21 c21 _ ((Kd.R_reads' R21).2.2) hg6).mono ?_))
    rintro e w44 ⟨v44, rfl, R44, l44⟩
    refine ⟨_, rfl, ?_⟩
    replace b1 := blk_below b1 l44
    replace b3 := blk_below b3 l44
    replace R21 := Kd.R_below R21 l44
    replace L := below_step L l44
    replace lo := below_step lo l44
    have lx := Below.refl w44.heap.size w44
    obtain ⟨A44, c44, hv44⟩ := Kd.R_slice R44
    subst hv44
    obtain ⟨_, _, C44⟩ := Kd.R_reads' R44
    refine E.GL.run rfl rfl rfl (E.Runs.move rfl rfl) ?_
    refine E.GL.run rfl rfl rfl (E.Runs.extract rfl rfl rfl) ?_
    refine E.GL.run rfl rfl rfl (E.Runs.extract rfl rfl rfl) ?_
    refine E.GL.run rfl rfl rfl (E.Runs.assign rfl rfl) ?_
    refine E.GL.run rfl rfl rfl (E.Runs.assign rfl rfl) ?_
    refine E.GL.done ?_
    refine E.QG.code ?_
    refine E.CG.seq ?_
    refine E.CG.list ?_
    refine E.GL.run rfl rfl rfl (E.Runs.loads (cs := [.int .i64 M.fl, .int .i64 M.fh, .int .i64 M.al, .int .i64 M.ah, .int .i64 M.nl, .int .i64 M.nh, .int .i64 M.ra, .slice A M.gs.length c, .int .i64 M.wr]) rfl rfl hu26 rfl info26s (blk_cells b1)) ?_
    refine E.GL.st rfl rfl rfl (E.ST.call rfl ent38 (E.evc rfl E.evn) ((refblame_calls M A c _ (Kd.C_below hr L) hg6).mono ?_))
    rintro e w49 ⟨v49, rfl, R49, l49⟩
    refine ⟨_, rfl, ?_⟩
    replace b1 := blk_below b1 l49
    replace b3 := blk_below b3 l49
    replace R21 := Kd.R_below R21 l49
    replace L := below_step L l49
    replace lo := below_step lo l49
    replace lx := below_step lx l49
    have ly := Below.refl w49.heap.size w49
    obtain ⟨A49, c49, hv49⟩ := Kd.R_slice R49
    subst hv49
    obtain ⟨_, _, C49⟩ := Kd.R_reads' R49
    refine E.GL.run rfl rfl rfl (E.Runs.move rfl rfl) ?_
    refine E.GL.run rfl rfl rfl (E.Runs.extract rfl rfl rfl) ?_
    refine E.GL.run rfl rfl rfl (E.Runs.extract rfl rfl rfl) ?_
    refine E.GL.run rfl rfl rfl (E.Runs.assign rfl rfl) ?_
    refine E.GL.run rfl rfl rfl (E.Runs.assign rfl rfl) ?_
    refine E.GL.done ?_
    refine E.QG.code ?_
    refine E.CG.seq ?_
    refine E.CG.seq ?_
    refine E.CG.heldH (none) (by kernel_rfl) fun v10 lD hh => ?_
    replace b1 := blk_below b1 lD
    replace b3 := blk_below b3 lD
    replace R21 := Kd.R_below R21 lD
    replace L := below_step L lD
    replace lo := below_step lo lD
    replace lx := below_step lx lD
    replace ly := below_step ly lD
    clear lD
    have s_b1 := b1
    have s_b3 := b3
    have s_L := L
    have s_lo := lo
    have s_lx := lx
    have s_ly := ly
    refine E.GH.take (i := 0) rfl (by kernel_rfl) (by kernel_rfl) (by kernel_rfl) (by intro c a d v w h; cases d <;> exact h) rfl rfl rfl (fun w' hS => (E.Runs.loads (cs := [.int .i64 M.fl, .int .i64 M.fh, .int .i64 M.al, .int .i64 M.ah, .int .i64 M.nl, .int .i64 M.nh, .int .i64 M.ra, .slice A21 M.gs.length c21, .int .i64 M.wr]) rfl rfl hu26 rfl info26s (blk_cells (blk_grown s_b3 hS E.nen)))) ?_
    refine E.GH.take (i := 2) rfl (by kernel_rfl) (by kernel_rfl) (by kernel_rfl) (by intro c a d v w h; cases d <;> exact h) rfl rfl rfl (fun w' hS => (E.Runs.loads (cs := [.int .i64 M.fl, .int .i64 M.fh, .int .i64 M.al, .int .i64 M.ah, .int .i64 M.nl, .int .i64 M.nh, .int .i64 M.ra, .slice A M.gs.length c, .int .i64 M.wr]) rfl rfl hu26 rfl info26s (blk_cells (blk_grown s_b1 hS E.nen)))) ?_
    refine E.GH.one (i := 1) (by kernel_rfl) rfl ?_
    refine E.GO.st rfl rfl rfl (E.ST.call rfl ent39 (E.evc rfl E.evn) ((check_o M A21 c21 _ ((Kd.R_reads' R21).2.2) hg6).mono ?_))
    rintro e w53 ⟨rfl, l53⟩
    refine ⟨_, rfl, hh.trans (E.gbB l53), ?_⟩
    replace hh := hh.trans (E.gbB l53)
    replace b1 := blk_below b1 l53
    replace b3 := blk_below b3 l53
    replace R21 := Kd.R_below R21 l53
    replace L := below_step L l53
    replace lo := below_step lo l53
    replace lx := below_step lx l53
    replace ly := below_step ly l53
    refine E.GH.one (i := 3) (by kernel_rfl) rfl ?_
    refine E.GO.st rfl rfl rfl (E.ST.call rfl ent40 (E.evc rfl E.evn) ((check_r M A c _ (Kd.C_below hr L) hg6).mono ?_))
    rintro e w55 ⟨rfl, l55⟩
    refine ⟨_, rfl, hh.trans (E.gbB l55), ?_⟩
    replace hh := hh.trans (E.gbB l55)
    replace b1 := blk_below b1 l55
    replace b3 := blk_below b3 l55
    replace R21 := Kd.R_below R21 l55
    replace L := below_step L l55
    replace lo := below_step lo l55
    replace lx := below_step lx l55
    replace ly := below_step ly l55
    refine E.GH.take (i := 4) rfl (by kernel_rfl) (by kernel_rfl) (by kernel_rfl) (by intro c a d v w h; cases d <;> exact h) rfl rfl rfl (fun w' hS => (E.Runs.neq rfl rfl rfl (E.ne_f rfl))) ?_
    refine E.GH.take (i := 5) rfl (by kernel_rfl) (by kernel_rfl) (by kernel_rfl) (by intro c a d v w h; cases d <;> exact h) rfl rfl rfl (fun w' hS => (E.Runs.move rfl rfl)) ?_
    refine E.GH.take (i := 6) rfl (by kernel_rfl) (by kernel_rfl) (by kernel_rfl) (by intro c a d v w h; cases d <;> exact h) rfl rfl rfl (fun w' hS => (E.Runs.move rfl rfl)) ?_
    refine E.GH.take (i := 7) rfl (by kernel_rfl) (by kernel_rfl) (by kernel_rfl) (by intro c a d v w h; cases d <;> exact h) rfl rfl rfl (fun w' hS => (E.Runs.move rfl rfl)) ?_
    refine E.GH.take (i := 8) rfl (by kernel_rfl) (by kernel_rfl) (by kernel_rfl) (by intro c a d v w h; cases d <;> exact h) rfl rfl rfl (fun w' hS => (E.Runs.neq rfl rfl rfl (E.ne_f rfl))) ?_
    refine E.GH.take (i := 9) rfl (by kernel_rfl) (by kernel_rfl) (by kernel_rfl) (by intro c a d v w h; cases d <;> exact h) rfl rfl rfl (fun w' hS => (E.Runs.pick_f rfl rfl rfl)) ?_
    refine E.GH.take (i := 10) rfl (by kernel_rfl) (by kernel_rfl) (by kernel_rfl) (by intro c a d v w h; cases d <;> exact h) rfl rfl rfl (fun w' hS => (E.Runs.move rfl rfl)) ?_
    refine E.GH.take (i := 11) rfl (by kernel_rfl) (by kernel_rfl) (by kernel_rfl) (by intro c a d v w h; cases d <;> exact h) rfl rfl rfl (fun w' hS => (E.Runs.move rfl rfl)) ?_
    refine E.GH.take (i := 12) rfl (by kernel_rfl) (by kernel_rfl) (by kernel_rfl) (by intro c a d v w h; cases d <;> exact h) rfl rfl rfl (fun w' hS => (E.Runs.move rfl rfl)) ?_
    refine E.GH.take (i := 13) rfl (by kernel_rfl) (by kernel_rfl) (by kernel_rfl) (by intro c a d v w h; cases d <;> exact h) rfl rfl rfl (fun w' hS => (E.Runs.neq rfl rfl rfl (E.ne_f rfl))) ?_
    refine E.GH.take (i := 14) rfl (by kernel_rfl) (by kernel_rfl) (by kernel_rfl) (by intro c a d v w h; cases d <;> exact h) rfl rfl rfl (fun w' hS => (E.Runs.pick_f rfl rfl rfl)) ?_
    refine E.GH.take (i := 15) rfl (by kernel_rfl) (by kernel_rfl) (by kernel_rfl) (by intro c a d v w h; cases d <;> exact h) rfl rfl rfl (fun w' hS => (E.Runs.move rfl rfl)) ?_
    refine E.GH.take (i := 16) rfl (by kernel_rfl) (by kernel_rfl) (by kernel_rfl) (by intro c a d v w h; cases d <;> exact h) rfl rfl rfl (fun w' hS => (E.Runs.move rfl rfl)) ?_
    refine E.GH.take (i := 17) rfl (by kernel_rfl) (by kernel_rfl) (by kernel_rfl) (by intro c a d v w h; cases d <;> exact h) rfl rfl rfl (fun w' hS => (E.Runs.move rfl rfl)) ?_
    refine E.GH.take (i := 18) rfl (by kernel_rfl) (by kernel_rfl) (by kernel_rfl) (by intro c a d v w h; cases d <;> exact h) rfl rfl rfl (fun w' hS => (E.Runs.neq rfl rfl rfl (E.ne_f rfl))) ?_
    refine E.GH.take (i := 19) rfl (by kernel_rfl) (by kernel_rfl) (by kernel_rfl) (by intro c a d v w h; cases d <;> exact h) rfl rfl rfl (fun w' hS => (E.Runs.pick_f rfl rfl rfl)) ?_
    refine E.GH.take (i := 20) rfl (by kernel_rfl) (by kernel_rfl) (by kernel_rfl) (by intro c a d v w h; cases d <;> exact h) rfl rfl rfl (fun w' hS => (E.Runs.move rfl rfl)) ?_
    refine E.GH.take (i := 21) rfl (by kernel_rfl) (by kernel_rfl) (by kernel_rfl) (by intro c a d v w h; cases d <;> exact h) rfl rfl rfl (fun w' hS => (E.Runs.move rfl rfl)) ?_
    refine E.GH.take (i := 22) rfl (by kernel_rfl) (by kernel_rfl) (by kernel_rfl) (by intro c a d v w h; cases d <;> exact h) rfl rfl rfl (fun w' hS => (E.Runs.move rfl rfl)) ?_
    refine E.GH.take (i := 23) rfl (by kernel_rfl) (by kernel_rfl) (by kernel_rfl) (by intro c a d v w h; cases d <;> exact h) rfl rfl rfl (fun w' hS => (E.Runs.neq rfl rfl rfl (E.ne_f rfl))) ?_
    refine E.GH.take (i := 24) rfl (by kernel_rfl) (by kernel_rfl) (by kernel_rfl) (by intro c a d v w h; cases d <;> exact h) rfl rfl rfl (fun w' hS => (E.Runs.pick_f rfl rfl rfl)) ?_
    refine E.GH.take (i := 25) rfl (by kernel_rfl) (by kernel_rfl) (by kernel_rfl) (by intro c a d v w h; cases d <;> exact h) rfl rfl rfl (fun w' hS => (E.Runs.move rfl rfl)) ?_
    refine E.GH.take (i := 26) rfl (by kernel_rfl) (by kernel_rfl) (by kernel_rfl) (by intro c a d v w h; cases d <;> exact h) rfl rfl rfl (fun w' hS => (E.Runs.move rfl rfl)) ?_
    refine E.GH.take (i := 27) rfl (by kernel_rfl) (by kernel_rfl) (by kernel_rfl) (by intro c a d v w h; cases d <;> exact h) rfl rfl rfl (fun w' hS => (E.Runs.move rfl rfl)) ?_
    refine E.GH.one (i := 28) (by kernel_rfl) rfl ?_
    refine E.GO.st rfl rfl rfl (E.ST.call rfl ent17 (E.evc rfl (E.evc rfl E.evn)) ((same_calls (blameV M) (blameV M) A44 A49 c44 c49 _ true (by simp) (Kd.C_below C44 lx) (Kd.C_below C49 ly) (by omega)).mono ?_))
    rintro e w80 ⟨rfl, l80⟩
    refine ⟨_, rfl, hh.trans (E.gbB l80), ?_⟩
    replace hh := hh.trans (E.gbB l80)
    replace b1 := blk_below b1 l80
    replace b3 := blk_below b3 l80
    replace R21 := Kd.R_below R21 l80
    replace L := below_step L l80
    replace lo := below_step lo l80
    replace lx := below_step lx l80
    replace ly := below_step ly l80
    refine E.GH.take (i := 29) rfl (by kernel_rfl) (by kernel_rfl) (by kernel_rfl) (by intro c a d v w h; cases d <;> exact h) rfl rfl rfl (fun w' hS => (E.Runs.not rfl rfl)) ?_
    refine E.GH.take (i := 30) rfl (by kernel_rfl) (by kernel_rfl) (by kernel_rfl) (by intro c a d v w h; cases d <;> exact h) rfl rfl rfl (fun w' hS => (E.Runs.pick_f rfl rfl rfl)) ?_
    refine E.GH.take (i := 31) rfl (by kernel_rfl) (by kernel_rfl) (by kernel_rfl) (by intro c a d v w h; cases d <;> exact h) rfl rfl rfl (fun w' hS => (E.Runs.move rfl rfl)) ?_
    refine E.GH.take (i := 32) rfl (by kernel_rfl) (by kernel_rfl) (by kernel_rfl) (by intro c a d v w h; cases d <;> exact h) rfl rfl rfl (fun w' hS => (E.Runs.move rfl rfl)) ?_
    refine E.GH.take (i := 33) rfl (by kernel_rfl) (by kernel_rfl) (by kernel_rfl) (by intro c a d v w h; cases d <;> exact h) rfl rfl rfl (fun w' hS => (E.Runs.move rfl rfl)) ?_
    refine E.GH.take (i := 34) rfl (by kernel_rfl) (by kernel_rfl) (by kernel_rfl) (by intro c a d v w h; cases d <;> exact h) rfl rfl rfl (fun w' hS => (E.Runs.neq rfl rfl rfl (E.ne_f rfl))) ?_
    refine E.GH.take (i := 35) rfl (by kernel_rfl) (by kernel_rfl) (by kernel_rfl) (by intro c a d v w h; cases d <;> exact h) rfl rfl rfl (fun w' hS => (E.Runs.pick_f rfl rfl rfl)) ?_
    refine E.GH.done (by kernel_rfl) ?_
    refine E.QG.code ?_
    refine E.CG.cond_f rfl ?_
    refine E.CG.skip ?_
    refine E.QG.code ?_
    refine E.CG.seq ?_
    refine E.CG.seq ?_
    refine E.CG.list ?_
    refine E.GL.run rfl rfl rfl (E.Runs.assign rfl rfl) ?_
    refine E.GL.done ?_
    refine E.QG.code ?_
    refine E.CG.block ?_
    have s13_b1 := b1
    have s13_b3 := b3
    have s13_L := L
    have s13_lo := lo
    have s13_lx := lx
    have s13_ly := ly
    refine E.CG.loop (fun (i : Nat) => [(1, .pointer (some ⟨g1, 0, none⟩)), (3, .pointer (some ⟨g3, 0, none⟩)), (16, .int .i64 i)]) (fun i w' => i ≤ M.gs.length ∧ Below w80.heap.size w80 w') (fun i => M.gs.length - i) 0 (E.subc rfl (E.subc rfl (E.subc rfl E.subn))) ⟨Nat.zero_le _, Below.refl _ _⟩ ?_
    rintro i w13 ⟨hi, lq⟩
    replace b1 := blk_below b1 lq
    replace b3 := blk_below b3 lq
    replace R21 := Kd.R_below R21 lq
    replace L := below_step L lq
    replace lo := below_step lo lq
    replace lx := below_step lx lq
    replace ly := below_step ly lq
    refine E.CG.seq ?_
    refine E.CG.seq ?_
    refine E.CG.list ?_
    refine E.GL.run rfl rfl rfl (E.Runs.move rfl rfl) ?_
    refine E.GL.run rfl rfl rfl (E.Runs.fieldAddr rfl rfl hu26 rfl (by assumption) rfl) ?_
    refine E.GL.run rfl rfl rfl (E.Runs.load1 rfl rfl hu24 rfl (by first | assumption | exact E.blkc (by assumption) rfl | exact pw_cell_below L (by assumption) | exact pw_cell_below lo (by assumption) | exact pw_cell_below lx (by assumption) | exact pw_cell_below ly (by assumption) | exact pw_cell_below lq (by assumption))) ?_
    refine E.GL.run rfl rfl rfl (E.Runs.len rfl rfl hu24) ?_
    refine E.GL.cmp rfl rfl rfl (fun _ h => (E.Runs.lss rfl rfl rfl h)) (fun h92 => ?_) (fun h92 => ?_)
    · obtain ⟨g, hg⟩ : ∃ g, M.gs[i]? = some g := ⟨_, List.getElem?_eq_getElem (by omega)⟩
      obtain ⟨ad, eA, G⟩ := gauge_at hr hg
      obtain ⟨ad2, eA2, G2⟩ := gauge_at C21 hg
      have hig : (i : Int) < M.gs.length := by omega
      refine E.GL.done ?_
      refine E.QG.code ?_
      refine E.CG.cond_t rfl ?_
      refine E.CG.skip ?_
      refine E.QG.code ?_
      refine E.CG.seq ?_
      refine E.CG.block ?_
      refine E.CG.seq ?_
      refine E.CG.quietF (by kernel_rfl) rfl (by kernel_rfl) (by kernel_rfl) ?_
      refine E.GQ.run rfl rfl rfl (E.Runs.fieldAddr rfl rfl hu26 rfl (by assumption) rfl) ?_
      refine E.GQ.run rfl rfl rfl (E.Runs.load1 rfl rfl hu24 rfl (by first | assumption | exact E.blkc (by assumption) rfl | exact pw_cell_below L (by assumption) | exact pw_cell_below lo (by assumption) | exact pw_cell_below lx (by assumption) | exact pw_cell_below ly (by assumption) | exact pw_cell_below lq (by assumption))) ?_
      refine E.GQ.run rfl rfl rfl (E.Runs.move rfl rfl) ?_
      refine E.GQ.run rfl rfl rfl (E.Runs.indexAddrA rfl rfl rfl hu24 (by assumption) (by assumption) (by assumption) (by first | rfl | assumption) rfl) ?_
      refine E.GQ.run rfl rfl rfl (E.Runs.loads (cs := [.int .i64 g.f0, .int .i64 g.f1, .int .i64 g.f2]) rfl rfl hu64 rfl info64s ((G2.below lo).cells)) ?_
      refine E.GQ.run rfl rfl rfl (E.Runs.fieldAddr rfl rfl hu26 rfl (by assumption) rfl) ?_
      refine E.GQ.run rfl rfl rfl (E.Runs.load1 rfl rfl hu24 rfl (by first | assumption | exact E.blkc (by assumption) rfl | exact pw_cell_below L (by assumption) | exact pw_cell_below lo (by assumption) | exact pw_cell_below lx (by assumption) | exact pw_cell_below ly (by assumption) | exact pw_cell_below lq (by assumption))) ?_
      refine E.GQ.run rfl rfl rfl (E.Runs.move rfl rfl) ?_
      refine E.GQ.run rfl rfl rfl (E.Runs.indexAddrA rfl rfl rfl hu24 (by assumption) (by assumption) (by assumption) (by first | rfl | assumption) rfl) ?_
      refine E.GQ.run rfl rfl rfl (E.Runs.loads (cs := [.int .i64 g.f0, .int .i64 g.f1, .int .i64 g.f2]) rfl rfl hu64 rfl info64s ((G.below L).cells)) ?_
      refine E.GQ.run rfl rfl rfl (E.Runs.neqv rfl rfl rfl rfl (fun _ _ W => run_eqGuard_agg W _ _ _ _ _ _ Try.eqGuardType64) (equal64 _ _ _) rfl) ?_
      refine E.GQ.doneB fun v15 lD => ?_
      replace b1 := blk_below b1 lD
      replace b3 := blk_below b3 lD
      replace R21 := Kd.R_below R21 lD
      replace L := below_step L lD
      replace lo := below_step lo lD
      replace lx := below_step lx lD
      replace ly := below_step ly lD
      replace lq := below_step lq lD
      clear lD
      refine E.QG.code ?_
      refine E.CG.cond_f rfl ?_
      refine E.CG.skip ?_
      refine E.QG.block_normal ?_
      refine E.QG.code ?_
      refine E.CG.list ?_
      refine E.GL.run rfl rfl rfl (E.Runs.move rfl rfl) ?_
      refine E.GL.run rfl rfl rfl (E.Runs.add rfl rfl rfl (IntWalk.i64_in _ (by omega))) ?_
      refine E.GL.run rfl rfl rfl (E.Runs.assign rfl rfl) ?_
      refine E.GL.done ?_
      exact E.QG.round (i + 1) (E.subc rfl (E.subc rfl (E.subc rfl E.subn))) ⟨by omega, lq⟩ (by omega)
    · refine E.GL.done ?_
      refine E.QG.code ?_
      refine E.CG.cond_f rfl ?_
      refine E.CG.exit ?_
      refine E.QG.pass_exit ?_
      refine E.QG.pass_exit ?_
      refine E.QG.block_here ?_
      refine E.QG.code ?_
      refine E.CG.seq ?_
      refine E.CG.list ?_
      refine E.GL.st rfl rfl rfl (E.ST.call rfl ent13 E.evn ((works_calls _).mono ?_))
      rintro e w106 ⟨rfl, l106⟩
      refine ⟨_, rfl, ?_⟩
      replace b1 := blk_below b1 l106
      replace b3 := blk_below b3 l106
      replace R21 := Kd.R_below R21 l106
      replace L := below_step L l106
      replace lo := below_step lo l106
      replace lx := below_step lx l106
      replace ly := below_step ly l106
      refine E.GL.run rfl rfl rfl (E.Runs.assign rfl rfl) ?_
      refine E.GL.done ?_
      refine E.QG.code ?_
      refine E.CG.ret ?_
      exact E.QG.result rfl rfl ⟨rfl, L⟩

end Go.Proofs.Ytbajpjnloikpdaa.T
