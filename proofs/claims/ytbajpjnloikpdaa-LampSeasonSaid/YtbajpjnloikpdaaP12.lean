/- LampChanges: the walks of the document's Changes, and of the law. -/
import Derived.Test.YtbajpjnloikpdaaP11
namespace Go.Proofs.Ytbajpjnloikpdaa.T
open Go.RowKit Go.Proofs.YtbajpjnloikpdaaW.PrintWords Go.Proofs.YtbajpjnloikpdaaW.PrintMore
open Go.Proofs.Ytbajpjnloikpdaa.P
set_option linter.unusedVariables false
set_option linter.unusedSimpArgs false

theorem made27 {W : World} {base : Nat} (x : Int) (cs : List Value) (h : kI.K W x cs) : kI.M W base (fun _ => False) x cs := h
set_option maxRecDepth 100000 in
set_option maxHeartbeats 8000000 in

theorem refchanges_calls (M : Lm) (A Ad : Option Addr) (c cd : Nat) (b : Int) (l : List Int) (w : World) (hr : Kd.C k64 w A M.gs.length M.gs) (hn : M.gs.length ≤ 1000000) (hd : Kd.C kI w Ad l.length l) (hn2 : l.length ≤ 1000000) :
    Calls Try.prog 16 #[lv M A c, .int .i64 b, .slice Ad l.length cd] w fun e w' => ∃ v, e = .returned (.tuple #[v, .int .i64 (chgE M b l)]) ∧ Kd.R kI 3 w' w.heap.size (fun _ => True) v (chgL M b l) ∧ Below w.heap.size w w' := by
  have hu3 := Try.underlying3
  have hu26 := Try.underlying26
  have hu27 := Try.underlying27
  have hu46 := Try.underlying46
  obtain ⟨z3, o3⟩ := info_some info3s (by decide)
  refine E.enter (N := 58) Try.func16 rfl Try.ntmps16 (args := [lv M A c, .int .i64 b, .slice Ad l.length cd]) (by simp) ?_
  have L := Below.refl w.heap.size w
  refine E.CG.seq ?_
  refine E.CG.list ?_
  refine E.GL.st rfl rfl rfl (E.ST.box rfl rfl fun g3 w3 e3 b3 l3 => ?_)
  have h3_L : w.heap.size ≤ g3 := by rw [e3]; exact L.size
  replace L := below_step L l3
  refine E.GL.run rfl rfl rfl (E.Runs.assign rfl rfl) ?_
  refine E.GL.run rfl rfl rfl (E.Runs.assign rfl rfl) ?_
  refine E.GL.done ?_
  refine E.QG.code ?_
  refine E.CG.seq ?_
  refine E.CG.seq ?_
  refine E.CG.list ?_
  refine E.GL.run rfl rfl rfl (E.Runs.loads (cs := [.int .i64 M.fl, .int .i64 M.fh, .int .i64 M.al, .int .i64 M.ah, .int .i64 M.nl, .int .i64 M.nh, .int .i64 M.ra, .slice A M.gs.length c, .int .i64 M.wr]) rfl rfl hu26 rfl info26s (blk_cells b3)) ?_
  refine E.GL.run rfl rfl rfl (E.Runs.move rfl rfl) ?_
  refine E.GL.run rfl rfl rfl (E.Runs.move rfl rfl) ?_
  refine E.GL.st rfl rfl rfl (E.ST.call rfl ent22 (E.evc rfl (E.evc rfl (E.evc rfl E.evn))) ((checkdays_calls M A Ad c cd b l _ (Kd.C_below hr L) hn (Kd.C_below hd L)).mono ?_))
  rintro e w15 ⟨rfl, l15⟩
  refine ⟨_, rfl, ?_⟩
  replace b3 := blk_below b3 l15
  replace L := below_step L l15
  refine E.GL.run rfl rfl rfl (E.Runs.assign rfl rfl) ?_
  refine E.GL.done ?_
  refine E.QG.code ?_
  refine E.CG.seq ?_
  refine E.CG.list ?_
  refine E.GL.run rfl rfl rfl (E.Runs.move rfl rfl) ?_
  refine E.GL.cmpn rfl rfl rfl (fun _ h => (E.Runs.neq rfl rfl rfl h)) (fun h17 => ?_) (fun h17 => ?_)
  · refine E.GL.done ?_
    refine E.QG.code ?_
    refine E.CG.cond_t rfl ?_
    refine E.CG.seq ?_
    refine E.CG.list ?_
    refine E.GL.run rfl rfl rfl (E.Runs.move rfl rfl) ?_
    refine E.GL.run rfl rfl rfl (E.Runs.assign rfl rfl) ?_
    refine E.GL.run rfl rfl rfl (E.Runs.assign rfl rfl) ?_
    refine E.GL.done ?_
    refine E.QG.code ?_
    refine E.CG.ret ?_
    refine E.QG.pass_ret ?_
    exact E.QG.result2 rfl rfl rfl ⟨_, by rw [chgE_no h17], by rw [chgL_no h17]; exact Kd.R_nil _ _ _ _ _, L⟩
  · have hE : daysE M b l = 0 := by omega
    obtain ⟨hV, hb4, hl3, hdo⟩ := daysE_ok hE
    refine E.GL.done ?_
    refine E.QG.code ?_
    refine E.CG.cond_f rfl ?_
    refine E.CG.skip ?_
    refine E.QG.code ?_
    refine E.CG.seq ?_
    refine E.CG.list ?_
    refine E.GL.run rfl rfl rfl (E.Runs.loads (cs := [.int .i64 M.fl, .int .i64 M.fh, .int .i64 M.al, .int .i64 M.ah, .int .i64 M.nl, .int .i64 M.nh, .int .i64 M.ra, .slice A M.gs.length c, .int .i64 M.wr]) rfl rfl hu26 rfl info26s (blk_cells b3)) ?_
    have hs20 := L.size
    refine E.GL.st rfl rfl rfl (E.ST.call rfl ent48 (E.evc rfl E.evn) ((old_calls M A c _ hV (Kd.C_below hr L)).mono ?_))
    rintro e w20 ⟨v20, rfl, R20, l20⟩
    refine ⟨_, rfl, ?_⟩
    replace b3 := blk_below b3 l20
    replace L := below_step L l20
    obtain ⟨A20, c20, hv20⟩ := Kd.R_slice R20
    subst hv20
    obtain ⟨_, _, C20⟩ := Kd.R_reads' R20
    refine E.GL.run rfl rfl rfl (E.Runs.assign rfl rfl) ?_
    refine E.GL.done ?_
    refine E.QG.code ?_
    refine E.CG.seq ?_
    refine E.CG.list ?_
    refine E.GL.run rfl rfl rfl (E.Runs.assign rfl rfl) ?_
    refine E.GL.done ?_
    refine E.QG.code ?_
    refine E.CG.seq ?_
    refine E.CG.seq ?_
    refine E.CG.list ?_
    refine E.GL.run rfl rfl rfl (E.Runs.assign rfl rfl) ?_
    refine E.GL.done ?_
    refine E.QG.code ?_
    refine E.CG.block ?_
    have hf20 := truths_few hV.1
    have hfp := pairs_few hV.1
    have hra : M.ra ≤ 40 := hV.1.2.2.2.1.2
    have hle20 := L.size
    have hfr : truths (fr M) = pairs M := fr_truths hV.1.2.2.2.2.2.1
    have s7_b3 := b3
    have s7_L := L
    refine E.CG.loop2 (fun (i : Nat) (s : Cs) => [(1, .int .i64 s.b), (2, .slice Ad l.length cd), (3, .pointer (some ⟨g3, 0, none⟩)), (9, .slice s.A s.t.length s.c), (10, s.v), (11, .int .i64 i)]) (fun i s w' => i ≤ l.length ∧ Below w20.heap.size w20 w' ∧ Kd.R kI 3 w' w20.heap.size (fun _ => True) s.v s.out ∧ Kd.C kL w' s.A s.t.length s.t ∧ (∀ y ∈ s.t, PtOk y) ∧ s.t.length ≤ 4010 ∧ (0 ≤ s.b ∧ s.b ≤ 40) ∧ s.out.length ≤ i ∧ chgR M b l = (chg (showT M.nl M.nh M.ra) (pairs M) s.t s.b (l.drop i) i).map (s.out ++ ·)) (fun i s => l.length - i) 0 ⟨truths M, A20, c20, b, [], .slice none 0 0⟩ (E.subc rfl (E.subc rfl (E.subc rfl (E.subc rfl (E.subc rfl (E.subc rfl E.subn)))))) ⟨Nat.zero_le _, Below.refl _ _, Kd.R_nil _ _ _ _ _, C20, fun y hy => truths_ok hV.1 hy, hf20, hb4, Nat.le_refl _, by rw [List.drop_zero, ← hfr]; show chgR M b l = (chgR M b l).map (fun y => [] ++ y); cases chgR M b l <;> rfl⟩ ?_
    rintro i s w7 ⟨hi, lr, R10, hC, hok, hl40, hb40, hol, hch⟩
    replace b3 := blk_below b3 lr
    replace L := below_step L lr
    have lw := Below.refl w7.heap.size w7
    refine E.CG.seq ?_
    refine E.CG.seq ?_
    refine E.CG.list ?_
    refine E.GL.run rfl rfl rfl (E.Runs.move rfl rfl) ?_
    refine E.GL.run rfl rfl rfl (E.Runs.move rfl rfl) ?_
    refine E.GL.run rfl rfl rfl (E.Runs.len rfl rfl hu27) ?_
    refine E.GL.cmp rfl rfl rfl (fun _ h => (E.Runs.lss rfl rfl rfl h)) (fun h24 => ?_) (fun h24 => ?_)
    · obtain ⟨x, hx⟩ : ∃ x, l[i]? = some x := ⟨_, List.getElem?_eq_getElem (by omega)⟩
      obtain ⟨ad, eA, X⟩ := int_at hd hx
      have hxd := hdo x (List.mem_of_getElem? hx)
      have hx0 := hxd.1
      have hx4 := hxd.2
      have hil : (i : Int) < l.length := by omega
      refine E.GL.done ?_
      refine E.QG.code ?_
      refine E.CG.cond_t rfl ?_
      refine E.CG.skip ?_
      refine E.QG.code ?_
      refine E.CG.seq ?_
      refine E.CG.block ?_
      refine E.CG.seq ?_
      refine E.CG.seq ?_
      refine E.CG.heldH (none) (by kernel_rfl) fun v9 lD hh => ?_
      replace b3 := blk_below b3 lD
      replace R10 := Kd.R_below R10 lD
      replace L := below_step L lD
      replace lr := below_step lr lD
      replace lw := below_step lw lD
      clear lD
      have s_b3 := b3
      have s_L := L
      have s_lr := lr
      have s_lw := lw
      refine E.GH.take (i := 0) rfl (by kernel_rfl) (by kernel_rfl) (by kernel_rfl) (by intro c a d v w h; cases d <;> exact h) rfl rfl rfl (fun w' hS => (E.Runs.loads (cs := [.int .i64 M.fl, .int .i64 M.fh, .int .i64 M.al, .int .i64 M.ah, .int .i64 M.nl, .int .i64 M.nh, .int .i64 M.ra, .slice A M.gs.length c, .int .i64 M.wr]) rfl rfl hu26 rfl info26s (blk_cells (blk_grown s_b3 hS E.nen)))) ?_
      refine E.GH.take (i := 1) rfl (by kernel_rfl) (by kernel_rfl) (by kernel_rfl) (by intro c a d v w h; cases d <;> exact h) rfl rfl rfl (fun w' hS => (E.Runs.loads (cs := [.int .i64 M.fl, .int .i64 M.fh, .int .i64 M.al, .int .i64 M.ah, .int .i64 M.nl, .int .i64 M.nh, .int .i64 M.ra, .slice A M.gs.length c, .int .i64 M.wr]) rfl rfl hu26 rfl info26s (blk_cells (blk_grown s_b3 hS E.nen)))) ?_
      refine E.GH.take (i := 3) rfl (by kernel_rfl) (by kernel_rfl) (by kernel_rfl) (by intro c a d v w h; cases d <;> exact h) rfl rfl rfl (fun w' hS => (E.Runs.move rfl rfl)) ?_
      refine E.GH.take (i := 4) rfl (by kernel_rfl) (by kernel_rfl) (by kernel_rfl) (by intro c a d v w h; cases d <;> exact h) rfl rfl rfl (fun w' hS => (E.Runs.move rfl rfl)) ?_
      refine E.GH.take (i := 5) rfl (by kernel_rfl) (by kernel_rfl) (by kernel_rfl) (by intro c a d v w h; cases d <;> exact h) rfl rfl rfl (fun w' hS => (E.Runs.indexAddrA rfl rfl rfl hu27 (by assumption) (by assumption) (by assumption) (by first | rfl | assumption) rfl)) ?_
      refine E.GH.take (i := 6) rfl (by kernel_rfl) (by kernel_rfl) (by kernel_rfl) (by intro c a d v w h; cases d <;> exact h) rfl rfl rfl (fun w' hS => (E.Runs.load rfl rfl hu3 (by first | exact E.keeps hS (E.blkc (by assumption) rfl) (by first | exact E.nen | exact E.nes (by assumption) | exact E.nes (Ne.symm (by assumption))) | exact pw_cell_below (below_step s_L (E.belowG hS)) (by assumption) | exact pw_cell_below (below_step s_lr (E.belowG hS)) (by assumption) | exact pw_cell_below (below_step s_lw (E.belowG hS)) (by assumption)))) ?_
      refine E.GH.one (i := 2) (by kernel_rfl) rfl ?_
      refine E.GO.st rfl rfl rfl (E.ST.call rfl ent24 (E.evc rfl E.evn) ((new_calls M A c _ hV.1).mono ?_))
      rintro e w29 ⟨v29, rfl, R29, l29⟩
      refine ⟨_, rfl, hh.trans (E.gbB l29), ?_⟩
      replace hh := hh.trans (E.gbB l29)
      replace b3 := blk_below b3 l29
      replace R10 := Kd.R_below R10 l29
      replace L := below_step L l29
      replace lr := below_step lr l29
      replace lw := below_step lw l29
      obtain ⟨A29, c29, hv29⟩ := Kd.R_slice R29
      subst hv29
      obtain ⟨_, _, C29⟩ := Kd.R_reads' R29
      by_cases h34 : showT M.nl M.nh M.ra (pairs M) 0 x
      · refine E.GH.one (i := 7) (by kernel_rfl) rfl ?_
        refine E.GO.st rfl rfl rfl (E.ST.call rfl ent23 (E.evc rfl (E.evc rfl (E.evc rfl (E.evc rfl E.evn)))) ((canshow_calls M (pairs M) A A29 c c29 0 x _ true (iff_of_true rfl h34) C29 (fun y hy => pairs_ok hV.1 hy) (by omega) ⟨by omega, by omega⟩ hxd hra).mono ?_))
        rintro e w34 ⟨rfl, l34⟩
        refine ⟨_, rfl, hh.trans (E.gbB l34), ?_⟩
        replace hh := hh.trans (E.gbB l34)
        replace b3 := blk_below b3 l34
        replace R10 := Kd.R_below R10 l34
        replace L := below_step L l34
        replace lr := below_step lr l34
        replace lw := below_step lw l34
        refine E.GH.take (i := 8) rfl (by kernel_rfl) (by kernel_rfl) (by kernel_rfl) (by intro c a d v w h; cases d <;> exact h) rfl rfl rfl (fun w' hS => (E.Runs.not rfl rfl)) ?_
        refine E.GH.done (by kernel_rfl) ?_
        refine E.QG.code ?_
        refine E.CG.cond_f rfl ?_
        refine E.CG.skip ?_
        refine E.QG.code ?_
        refine E.CG.seq ?_
        refine E.CG.seq ?_
        refine E.CG.heldH (none) (by kernel_rfl) fun v11 lD hh => ?_
        replace b3 := blk_below b3 lD
        replace R10 := Kd.R_below R10 lD
        replace L := below_step L lD
        replace lr := below_step lr lD
        replace lw := below_step lw lD
        clear lD
        have s_b3 := b3
        have s_L := L
        have s_lr := lr
        have s_lw := lw
        refine E.GH.take (i := 0) rfl (by kernel_rfl) (by kernel_rfl) (by kernel_rfl) (by intro c a d v w h; cases d <;> exact h) rfl rfl rfl (fun w' hS => (E.Runs.loads (cs := [.int .i64 M.fl, .int .i64 M.fh, .int .i64 M.al, .int .i64 M.ah, .int .i64 M.nl, .int .i64 M.nh, .int .i64 M.ra, .slice A M.gs.length c, .int .i64 M.wr]) rfl rfl hu26 rfl info26s (blk_cells (blk_grown s_b3 hS E.nen)))) ?_
        refine E.GH.take (i := 1) rfl (by kernel_rfl) (by kernel_rfl) (by kernel_rfl) (by intro c a d v w h; cases d <;> exact h) rfl rfl rfl (fun w' hS => (E.Runs.move rfl rfl)) ?_
        refine E.GH.take (i := 2) rfl (by kernel_rfl) (by kernel_rfl) (by kernel_rfl) (by intro c a d v w h; cases d <;> exact h) rfl rfl rfl (fun w' hS => (E.Runs.move rfl rfl)) ?_
        refine E.GH.take (i := 3) rfl (by kernel_rfl) (by kernel_rfl) (by kernel_rfl) (by intro c a d v w h; cases d <;> exact h) rfl rfl rfl (fun w' hS => (E.Runs.move rfl rfl)) ?_
        refine E.GH.take (i := 4) rfl (by kernel_rfl) (by kernel_rfl) (by kernel_rfl) (by intro c a d v w h; cases d <;> exact h) rfl rfl rfl (fun w' hS => (E.Runs.move rfl rfl)) ?_
        refine E.GH.take (i := 5) rfl (by kernel_rfl) (by kernel_rfl) (by kernel_rfl) (by intro c a d v w h; cases d <;> exact h) rfl rfl rfl (fun w' hS => (E.Runs.indexAddrA rfl rfl rfl hu27 (by assumption) (by assumption) (by assumption) (by first | rfl | assumption) rfl)) ?_
        refine E.GH.take (i := 6) rfl (by kernel_rfl) (by kernel_rfl) (by kernel_rfl) (by intro c a d v w h; cases d <;> exact h) rfl rfl rfl (fun w' hS => (E.Runs.load rfl rfl hu3 (by first | exact E.keeps hS (E.blkc (by assumption) rfl) (by first | exact E.nen | exact E.nes (by assumption) | exact E.nes (Ne.symm (by assumption))) | exact pw_cell_below (below_step s_L (E.belowG hS)) (by assumption) | exact pw_cell_below (below_step s_lr (E.belowG hS)) (by assumption) | exact pw_cell_below (below_step s_lw (E.belowG hS)) (by assumption)))) ?_
        by_cases h43 : showT M.nl M.nh M.ra s.t s.b x
        · have hq : s.b + x ≤ 40 := by have := h43.2.1; omega
          refine E.GH.one (i := 7) (by kernel_rfl) rfl ?_
          refine E.GO.st rfl rfl rfl (E.ST.call rfl ent23 (E.evc rfl (E.evc rfl (E.evc rfl (E.evc rfl E.evn)))) ((canshow_calls M s.t A s.A c s.c s.b x _ true (iff_of_true rfl h43) (Kd.C_below hC lw) hok (by omega) hb40 hxd hra).mono ?_))
          rintro e w43 ⟨rfl, l43⟩
          refine ⟨_, rfl, hh.trans (E.gbB l43), ?_⟩
          replace hh := hh.trans (E.gbB l43)
          replace b3 := blk_below b3 l43
          replace R10 := Kd.R_below R10 l43
          replace L := below_step L l43
          replace lr := below_step lr l43
          replace lw := below_step lw l43
          refine E.GH.take (i := 8) rfl (by kernel_rfl) (by kernel_rfl) (by kernel_rfl) (by intro c a d v w h; cases d <;> exact h) rfl rfl rfl (fun w' hS => (E.Runs.not rfl rfl)) ?_
          refine E.GH.done (by kernel_rfl) ?_
          refine E.QG.code ?_
          refine E.CG.cond_f rfl ?_
          refine E.CG.skip ?_
          refine E.QG.code ?_
          refine E.CG.list ?_
          refine E.GL.run rfl rfl rfl (E.Runs.move rfl rfl) ?_
          refine E.GL.run rfl rfl rfl (E.Runs.move rfl rfl) ?_
          refine E.GL.run rfl rfl rfl (E.Runs.move rfl rfl) ?_
          refine E.GL.run rfl rfl rfl (E.Runs.indexAddrA rfl rfl rfl hu27 (by assumption) (by assumption) (by assumption) (by first | rfl | assumption) rfl) ?_
          refine E.GL.run rfl rfl rfl (E.Runs.load rfl rfl hu3 (by first | assumption | exact E.blkc (by assumption) rfl | exact pw_cell_below L (by assumption) | exact pw_cell_below lr (by assumption) | exact pw_cell_below lw (by assumption))) ?_
          refine E.GL.run rfl rfl rfl (E.Runs.add rfl rfl rfl (IntWalk.i64_in _ (by omega))) ?_
          refine E.GL.run rfl rfl rfl (E.Runs.assign rfl rfl) ?_
          refine E.GL.done ?_
          refine E.QG.block_normal ?_
          refine E.QG.code ?_
          refine E.CG.list ?_
          refine E.GL.run rfl rfl rfl (E.Runs.move rfl rfl) ?_
          refine E.GL.run rfl rfl rfl (E.Runs.add rfl rfl rfl (IntWalk.i64_in _ (by omega))) ?_
          refine E.GL.run rfl rfl rfl (E.Runs.assign rfl rfl) ?_
          refine E.GL.done ?_
          exact E.QG.round2 (d := ⟨[], none, 0, 0, [], undef⟩) (i + 1) ⟨s.t, s.A, s.c, s.b + x, s.out, s.v⟩ (E.subc rfl (E.subc rfl (E.subc rfl (E.subc rfl (E.subc rfl (E.subc rfl E.subn)))))) (by first | exact ⟨by omega, lr, R10, Kd.C_below hC lw, hok, hl40, ⟨by have := hb40.1; have := hxd.1; show 0 ≤ s.b + x; omega, hq⟩, by show s.out.length ≤ i + 1; omega, by rw [hch, chg_same hx h34 h43]; rfl⟩ | exact ⟨by omega, lr, r48, C50, fun y hy => pairs_ok hV.1 hy, hfp, ⟨by have := hxd.1; show 0 ≤ 0 + x; omega, by have := hxd.2; show 0 + x ≤ 40; omega⟩, by show (s.out ++ [(i : Int)]).length ≤ i + 1; rw [List.length_append]; show s.out.length + 1 ≤ i + 1; omega, by rw [hch, chg_new hx h34 h43, Option.map_map]; congr 1; funext y; simp⟩ | fail) (by omega)
        · refine E.GH.one (i := 7) (by kernel_rfl) rfl ?_
          refine E.GO.st rfl rfl rfl (E.ST.call rfl ent23 (E.evc rfl (E.evc rfl (E.evc rfl (E.evc rfl E.evn)))) ((canshow_calls M s.t A s.A c s.c s.b x _ false (iff_of_false Bool.false_ne_true h43) (Kd.C_below hC lw) hok (by omega) hb40 hxd hra).mono ?_))
          rintro e w43 ⟨rfl, l43⟩
          refine ⟨_, rfl, hh.trans (E.gbB l43), ?_⟩
          replace hh := hh.trans (E.gbB l43)
          replace b3 := blk_below b3 l43
          replace R10 := Kd.R_below R10 l43
          replace L := below_step L l43
          replace lr := below_step lr l43
          replace lw := below_step lw l43
          refine E.GH.take (i := 8) rfl (by kernel_rfl) (by kernel_rfl) (by kernel_rfl) (by intro c a d v w h; cases d <;> exact h) rfl rfl rfl (fun w' hS => (E.Runs.not rfl rfl)) ?_
          refine E.GH.done (by kernel_rfl) ?_
          refine E.QG.code ?_
          refine E.CG.cond_t rfl ?_
          refine E.CG.seq ?_
          refine E.CG.list ?_
          refine E.GL.run rfl rfl rfl (E.Runs.move rfl rfl) ?_
          refine E.GL.run rfl rfl rfl (E.Runs.move rfl rfl) ?_
          refine E.GL.st rfl rfl rfl (E.ST.lit rfl (E.epc rfl E.epn) (lit27 (i : Int)) ?_)
          refine E.GL.st rfl rfl rfl (E.ST.append kI w20.heap.size (w0 := w20) (s := .tmp 45) (x := .tmp 47) rfl hu27 info3 rfl (by decide) (by decide) (i : Int) rfl rfl rfl (fun _ _ => trivial) R10 lr lr.size (by omega) fun u48 w48 r48 k48 gr48 => ?_)
          replace lr := k48
          replace L := below_step s7_L lr
          replace b3 := blk_below s7_b3 lr
          refine E.GL.run rfl rfl rfl (E.Runs.assign rfl rfl) ?_
          refine E.GL.done ?_
          refine E.QG.code ?_
          refine E.CG.list ?_
          refine E.GL.run rfl rfl rfl (E.Runs.loads (cs := [.int .i64 M.fl, .int .i64 M.fh, .int .i64 M.al, .int .i64 M.ah, .int .i64 M.nl, .int .i64 M.nh, .int .i64 M.ra, .slice A M.gs.length c, .int .i64 M.wr]) rfl rfl hu26 rfl info26s (blk_cells b3)) ?_
          refine E.GL.st rfl rfl rfl (E.ST.call rfl ent24 (E.evc rfl E.evn) ((new_calls M A c _ hV.1).mono ?_))
          rintro e w50 ⟨v50, rfl, R50, l50⟩
          refine ⟨_, rfl, ?_⟩
          replace b3 := blk_below b3 l50
          replace r48 := Kd.R_below r48 l50
          replace L := below_step L l50
          replace lr := below_step lr l50
          obtain ⟨A50, c50, hv50⟩ := Kd.R_slice R50
          subst hv50
          obtain ⟨_, _, C50⟩ := Kd.R_reads' R50
          refine E.GL.run rfl rfl rfl (E.Runs.assign rfl rfl) ?_
          refine E.GL.run rfl rfl rfl (E.Runs.assign rfl rfl) ?_
          refine E.GL.done ?_
          refine E.QG.code ?_
          refine E.CG.list ?_
          refine E.GL.run rfl rfl rfl (E.Runs.move rfl rfl) ?_
          refine E.GL.run rfl rfl rfl (E.Runs.move rfl rfl) ?_
          refine E.GL.run rfl rfl rfl (E.Runs.move rfl rfl) ?_
          refine E.GL.run rfl rfl rfl (E.Runs.indexAddrA rfl rfl rfl hu27 (by assumption) (by assumption) (by assumption) (by first | rfl | assumption) rfl) ?_
          refine E.GL.run rfl rfl rfl (E.Runs.load rfl rfl hu3 (by first | assumption | exact E.blkc (by assumption) rfl | exact pw_cell_below L (by assumption) | exact pw_cell_below lr (by assumption))) ?_
          refine E.GL.run rfl rfl rfl (E.Runs.add rfl rfl rfl (IntWalk.i64_in _ (by omega))) ?_
          refine E.GL.run rfl rfl rfl (E.Runs.assign rfl rfl) ?_
          refine E.GL.done ?_
          refine E.QG.block_normal ?_
          refine E.QG.code ?_
          refine E.CG.list ?_
          refine E.GL.run rfl rfl rfl (E.Runs.move rfl rfl) ?_
          refine E.GL.run rfl rfl rfl (E.Runs.add rfl rfl rfl (IntWalk.i64_in _ (by omega))) ?_
          refine E.GL.run rfl rfl rfl (E.Runs.assign rfl rfl) ?_
          refine E.GL.done ?_
          exact E.QG.round2 (d := ⟨[], none, 0, 0, [], undef⟩) (i + 1) ⟨pairs M, A50, c50, 0 + x, s.out ++ [(i : Int)], _⟩ (E.subc rfl (E.subc rfl (E.subc rfl (E.subc rfl (E.subc rfl (E.subc rfl E.subn)))))) (by first | exact ⟨by omega, lr, R10, Kd.C_below hC lw, hok, hl40, ⟨by have := hb40.1; have := hxd.1; show 0 ≤ s.b + x; omega, hq⟩, by show s.out.length ≤ i + 1; omega, by rw [hch, chg_same hx h34 h43]; rfl⟩ | exact ⟨by omega, lr, r48, C50, fun y hy => pairs_ok hV.1 hy, hfp, ⟨by have := hxd.1; show 0 ≤ 0 + x; omega, by have := hxd.2; show 0 + x ≤ 40; omega⟩, by show (s.out ++ [(i : Int)]).length ≤ i + 1; rw [List.length_append]; show s.out.length + 1 ≤ i + 1; omega, by rw [hch, chg_new hx h34 h43, Option.map_map]; congr 1; funext y; simp⟩ | fail) (by omega)
      · refine E.GH.one (i := 7) (by kernel_rfl) rfl ?_
        refine E.GO.st rfl rfl rfl (E.ST.call rfl ent23 (E.evc rfl (E.evc rfl (E.evc rfl (E.evc rfl E.evn)))) ((canshow_calls M (pairs M) A A29 c c29 0 x _ false (iff_of_false Bool.false_ne_true h34) C29 (fun y hy => pairs_ok hV.1 hy) (by omega) ⟨by omega, by omega⟩ hxd hra).mono ?_))
        rintro e w34 ⟨rfl, l34⟩
        refine ⟨_, rfl, hh.trans (E.gbB l34), ?_⟩
        replace hh := hh.trans (E.gbB l34)
        replace b3 := blk_below b3 l34
        replace R10 := Kd.R_below R10 l34
        replace L := below_step L l34
        replace lr := below_step lr l34
        replace lw := below_step lw l34
        refine E.GH.take (i := 8) rfl (by kernel_rfl) (by kernel_rfl) (by kernel_rfl) (by intro c a d v w h; cases d <;> exact h) rfl rfl rfl (fun w' hS => (E.Runs.not rfl rfl)) ?_
        refine E.GH.done (by kernel_rfl) ?_
        refine E.QG.code ?_
        refine E.CG.cond_t rfl ?_
        refine E.CG.seq ?_
        refine E.CG.list ?_
        refine E.GL.run rfl rfl rfl (E.Runs.assign rfl rfl) ?_
        refine E.GL.run rfl rfl rfl (E.Runs.assign rfl rfl) ?_
        refine E.GL.done ?_
        refine E.QG.code ?_
        refine E.CG.ret ?_
        refine E.QG.pass_ret ?_
        refine E.QG.block_ret ?_
        refine E.QG.pass_ret ?_
        refine E.QG.pass_ret ?_
        refine E.QG.block_ret ?_
        refine E.QG.pass_ret ?_
        have hno := chg_none hE (by rw [hch, chg_no hx h34]; rfl)
        exact E.QG.result2 rfl rfl rfl ⟨_, by rw [hno.1], by rw [hno.2]; exact Kd.R_nil _ _ _ _ _, L⟩
    · refine E.GL.done ?_
      refine E.QG.code ?_
      refine E.CG.cond_f rfl ?_
      refine E.CG.exit ?_
      refine E.QG.pass_exit ?_
      refine E.QG.pass_exit ?_
      refine E.QG.block_here ?_
      refine E.QG.code ?_
      refine E.CG.seq ?_
      refine E.CG.list ?_
      refine E.GL.run rfl rfl rfl (E.Runs.move rfl rfl) ?_
      refine E.GL.run rfl rfl rfl (E.Runs.assign rfl rfl) ?_
      refine E.GL.run rfl rfl rfl (E.Runs.assign rfl rfl) ?_
      refine E.GL.done ?_
      refine E.QG.code ?_
      refine E.CG.ret ?_
      have hso := chg_some (out := s.out) hE (by rw [hch, List.drop_of_length_le (by omega)]; simp [chg])
      exact E.QG.result2 rfl rfl rfl ⟨_, by rw [hso.1], by rw [hso.2]; exact Kd.R_lower R10 hle20, L⟩

set_option maxRecDepth 100000 in
set_option maxHeartbeats 8000000 in

theorem chgL_few (M : Lm) (b : Int) (l : List Int) : (chgL M b l).length ≤ l.length := by
  have h : ∀ (l : List Int) (S : List Ln → Int → Int → Prop) (f t : List Ln) (b d : Int) (o : List Int), chg S f t b l d = some o → o.length ≤ l.length := by
    intro l
    induction l with
    | nil => intro S f t b d o h; simp only [chg, Option.some.injEq] at h; subst h; simp
    | cons x r ih =>
      intro S f t b d o h
      rw [chg_cons] at h
      split at h
      · cases h
      · split at h
        · exact Nat.le_succ_of_le (ih _ _ _ _ _ _ h)
        · rw [Option.map_eq_some_iff] at h
          obtain ⟨o', h1, rfl⟩ := h
          have := ih _ _ _ _ _ _ h1
          simp only [List.length_cons]
          omega
  unfold chgL
  split
  · cases hq : chgR M b l with
    | none => simp
    | some o => exact h l _ _ _ _ _ o hq
  · simp

theorem rows_apart {α β : Type} {d : Kd α} {d' : Kd β} {e e' base base' : Nat} {ok' : Nat → Prop} {w w1 : World} {v v' : Value} {xs : List α} {ys : List β} (h : d.R e w base (fun _ => True) v xs) (h' : d'.R e' w base' ok' v' ys) (hE : d.E = []) (hne : e ≠ e') (hg : w.grownBy w1 v'.ownBlock) : d.R e w1 base (fun _ => True) v xs :=
  Kd.R_mono (Kd.R_grown (Kd.R_bound h) hg (fun k hk ek => by
    obtain ⟨_, _, _, q, hq, cells, hc⟩ := hk
    rw [hE] at hq
    obtain ⟨_, inner, ho, _⟩ := h'
    obtain ⟨cells', hc'⟩ := own_typed ho k ek.symm
    rw [hc] at hc'
    simp at hq
    subst hq
    cases hc'
    exact hne rfl)) (fun _ _ => trivial)
set_option maxRecDepth 100000 in
set_option maxHeartbeats 8000000 in

theorem changes_law (M : Lm) (A Ad : Option Addr) (c cd : Nat) (b : Int) (l : List Int) (w : World) (hr : Kd.C k64 w A M.gs.length M.gs) (hd : Kd.C kI w Ad l.length l) :
    Calls Try.prog 3 #[lv M A c, .int .i64 b, .slice Ad l.length cd] w fun e w' => e = .returned (.bool true) ∧ Below w.heap.size w w' := by
  have hu3 := Try.underlying3
  have hu26 := Try.underlying26
  have hu27 := Try.underlying27
  refine E.enter (N := 47) Try.func3 rfl Try.ntmps3 (args := [lv M A c, .int .i64 b, .slice Ad l.length cd]) (by simp) ?_
  have L := Below.refl w.heap.size w
  refine E.CG.seq ?_
  refine E.CG.list ?_
  refine E.GL.st rfl rfl rfl (E.ST.box rfl rfl fun g3 w3 e3 b3 l3 => ?_)
  have h3_L : w.heap.size ≤ g3 := by rw [e3]; exact L.size
  replace L := below_step L l3
  refine E.GL.run rfl rfl rfl (E.Runs.assign rfl rfl) ?_
  refine E.GL.done ?_
  refine E.QG.code ?_
  refine E.CG.seq ?_
  refine E.CG.seq ?_
  refine E.CG.list ?_
  refine E.GL.run rfl rfl rfl (E.Runs.loads (cs := [.int .i64 M.fl, .int .i64 M.fh, .int .i64 M.al, .int .i64 M.ah, .int .i64 M.nl, .int .i64 M.nh, .int .i64 M.ra, .slice A M.gs.length c, .int .i64 M.wr]) rfl rfl hu26 rfl info26s (blk_cells b3)) ?_
  by_cases h12 : far M
  · refine E.GL.st rfl rfl rfl (E.ST.call rfl ent12 (E.evc rfl E.evn) ((far_calls M A c _ true (iff_of_true rfl h12) (Kd.C_below hr L)).mono ?_))
    rintro e w12 ⟨rfl, l12⟩
    refine ⟨_, rfl, ?_⟩
    replace b3 := blk_below b3 l12
    replace L := below_step L l12
    refine E.GL.run rfl rfl rfl (E.Runs.move rfl rfl) ?_
    refine E.GL.skip rfl rfl rfl ?_
    refine E.GL.skip rfl rfl rfl ?_
    refine E.GL.skip rfl rfl rfl ?_
    refine E.GL.run rfl rfl rfl (E.Runs.pick_t rfl rfl rfl) ?_
    refine E.GL.done ?_
    refine E.QG.code ?_
    refine E.CG.cond_t rfl ?_
    refine E.CG.seq ?_
    refine E.CG.list ?_
    refine E.GL.st rfl rfl rfl (E.ST.call rfl ent13 E.evn ((works_calls _).mono ?_))
    rintro e w18 ⟨rfl, l18⟩
    refine ⟨_, rfl, ?_⟩
    replace b3 := blk_below b3 l18
    replace L := below_step L l18
    refine E.GL.run rfl rfl rfl (E.Runs.assign rfl rfl) ?_
    refine E.GL.done ?_
    refine E.QG.code ?_
    refine E.CG.ret ?_
    refine E.QG.pass_ret ?_
    exact E.QG.result rfl rfl ⟨rfl, L⟩
  · have hg40 : M.gs.length ≤ 40 := by apply Classical.byContradiction; intro k; exact h12 (.inl (by omega))
    refine E.GL.st rfl rfl rfl (E.ST.call rfl ent12 (E.evc rfl E.evn) ((far_calls M A c _ false (iff_of_false Bool.false_ne_true h12) (Kd.C_below hr L)).mono ?_))
    rintro e w12 ⟨rfl, l12⟩
    refine ⟨_, rfl, ?_⟩
    replace b3 := blk_below b3 l12
    replace L := below_step L l12
    refine E.GL.run rfl rfl rfl (E.Runs.move rfl rfl) ?_
    refine E.GL.run rfl rfl rfl (E.Runs.move rfl rfl) ?_
    refine E.GL.run rfl rfl rfl (E.Runs.len rfl rfl hu27) ?_
    refine E.GL.cmp rfl rfl rfl (fun _ h => (E.Runs.gtr rfl rfl rfl h)) (fun h16 => ?_) (fun h16 => ?_)
    · refine E.GL.run rfl rfl rfl (E.Runs.pick_f rfl rfl rfl) ?_
      refine E.GL.done ?_
      refine E.QG.code ?_
      refine E.CG.cond_t rfl ?_
      refine E.CG.seq ?_
      refine E.CG.list ?_
      refine E.GL.st rfl rfl rfl (E.ST.call rfl ent13 E.evn ((works_calls _).mono ?_))
      rintro e w18 ⟨rfl, l18⟩
      refine ⟨_, rfl, ?_⟩
      replace b3 := blk_below b3 l18
      replace L := below_step L l18
      refine E.GL.run rfl rfl rfl (E.Runs.assign rfl rfl) ?_
      refine E.GL.done ?_
      refine E.QG.code ?_
      refine E.CG.ret ?_
      refine E.QG.pass_ret ?_
      exact E.QG.result rfl rfl ⟨rfl, L⟩
    · have hl60 : l.length ≤ 60 := by omega
      have hcl := chgL_few M b l
      refine E.GL.run rfl rfl rfl (E.Runs.pick_f rfl rfl rfl) ?_
      refine E.GL.done ?_
      refine E.QG.code ?_
      refine E.CG.cond_f rfl ?_
      refine E.CG.skip ?_
      refine E.QG.code ?_
      refine E.CG.seq ?_
      refine E.CG.list ?_
      refine E.GL.run rfl rfl rfl (E.Runs.loads (cs := [.int .i64 M.fl, .int .i64 M.fh, .int .i64 M.al, .int .i64 M.ah, .int .i64 M.nl, .int .i64 M.nh, .int .i64 M.ra, .slice A M.gs.length c, .int .i64 M.wr]) rfl rfl hu26 rfl info26s (blk_cells b3)) ?_
      refine E.GL.st rfl rfl rfl (E.ST.call rfl ent15 (E.evc rfl E.evn) ((copy_calls M A c _ (Kd.C_below hr L) (by omega)).mono ?_))
      rintro e w21 ⟨A21, c21, rfl, R21, l21⟩
      refine ⟨_, rfl, ?_⟩
      replace b3 := blk_below b3 l21
      replace L := below_step L l21
      refine E.GL.run rfl rfl rfl (E.Runs.move rfl rfl) ?_
      refine E.GL.st rfl rfl rfl (E.ST.litAt kI w.heap.size (w0 := w) (ys := ([] : List Int)) (inner := []) rfl rfl E.epn lit27n (Reps.none _ _) L L.size (by simp) fun u23 w23 r23 k23 l23 n23 => ?_)
      have hR21 := R21
      replace L := k23
      replace b3 := blk_below b3 l23
      replace R21 := Kd.R_below R21 l23
      clear hR21
      refine E.GL.run rfl rfl rfl (E.Runs.move rfl rfl) ?_
      refine E.GL.st rfl rfl rfl (E.ST.appendRows kI w.heap.size (w0 := w) (s := .tmp 23) (x := .tmp 24) rfl hu27 info3 rfl (by decide) (by decide) rfl rfl r23 (Kd.C_below hd L) made27 L L.size (by simp only [List.length_nil]; omega) fun u25 w25 r25 k25 g25 => ?_)
      rw [List.nil_append] at r25
      obtain ⟨A25, c25, hv25⟩ := Kd.R_slice r25
      subst hv25
      replace b3 := blk_grown b3 g25 (Kd.R_ne r23 b3 (by decide))
      obtain ⟨_, _, C25⟩ := Kd.R_reads' r25
      replace R21 := rows_apart R21 r23 rfl (by decide) g25
      obtain ⟨_, _, C21⟩ := Kd.R_reads' R21
      replace L := k25
      clear r23 R21 r25
      refine E.GL.st rfl rfl rfl (E.ST.call rfl ent14 (E.evc rfl (E.evc rfl (E.evc rfl E.evn))) ((changes_calls M A21 A25 c21 c25 b l _ C21 (by omega) C25 (by omega)).mono ?_))
      rintro e w26 ⟨v26, rfl, R26, l26⟩
      refine ⟨_, rfl, ?_⟩
      replace b3 := blk_below b3 l26
      replace L := below_step L l26
      have lx := Below.refl w26.heap.size w26
      obtain ⟨A26, c26, hv26⟩ := Kd.R_slice R26
      subst hv26
      obtain ⟨_, _, C26⟩ := Kd.R_reads' R26
      refine E.GL.run rfl rfl rfl (E.Runs.move rfl rfl) ?_
      refine E.GL.run rfl rfl rfl (E.Runs.extract rfl rfl rfl) ?_
      refine E.GL.run rfl rfl rfl (E.Runs.extract rfl rfl rfl) ?_
      refine E.GL.run rfl rfl rfl (E.Runs.assign rfl rfl) ?_
      refine E.GL.run rfl rfl rfl (E.Runs.assign rfl rfl) ?_
      refine E.GL.done ?_
      refine E.QG.code ?_
      refine E.CG.seq ?_
      refine E.CG.list ?_
      refine E.GL.run rfl rfl rfl (E.Runs.loads (cs := [.int .i64 M.fl, .int .i64 M.fh, .int .i64 M.al, .int .i64 M.ah, .int .i64 M.nl, .int .i64 M.nh, .int .i64 M.ra, .slice A M.gs.length c, .int .i64 M.wr]) rfl rfl hu26 rfl info26s (blk_cells b3)) ?_
      refine E.GL.run rfl rfl rfl (E.Runs.move rfl rfl) ?_
      refine E.GL.run rfl rfl rfl (E.Runs.move rfl rfl) ?_
      refine E.GL.st rfl rfl rfl (E.ST.call rfl ent16 (E.evc rfl (E.evc rfl (E.evc rfl E.evn))) ((refchanges_calls M A Ad c cd b l _ (Kd.C_below hr L) (by omega) (Kd.C_below hd L) (by omega)).mono ?_))
      rintro e w33 ⟨v33, rfl, R33, l33⟩
      refine ⟨_, rfl, ?_⟩
      replace b3 := blk_below b3 l33
      replace L := below_step L l33
      replace lx := below_step lx l33
      have ly := Below.refl w33.heap.size w33
      obtain ⟨A33, c33, hv33⟩ := Kd.R_slice R33
      subst hv33
      obtain ⟨_, _, C33⟩ := Kd.R_reads' R33
      refine E.GL.run rfl rfl rfl (E.Runs.move rfl rfl) ?_
      refine E.GL.run rfl rfl rfl (E.Runs.extract rfl rfl rfl) ?_
      refine E.GL.run rfl rfl rfl (E.Runs.extract rfl rfl rfl) ?_
      refine E.GL.run rfl rfl rfl (E.Runs.assign rfl rfl) ?_
      refine E.GL.run rfl rfl rfl (E.Runs.assign rfl rfl) ?_
      refine E.GL.done ?_
      refine E.QG.code ?_
      refine E.CG.seq ?_
      refine E.CG.list ?_
      refine E.GL.run rfl rfl rfl (E.Runs.move rfl rfl) ?_
      refine E.GL.run rfl rfl rfl (E.Runs.move rfl rfl) ?_
      refine E.GL.st rfl rfl rfl (E.ST.call rfl ent17 (E.evc rfl (E.evc rfl E.evn)) ((same_calls (chgL M b l) (chgL M b l) A26 A33 c26 c33 _ true (by simp) (Kd.C_below C26 lx) (Kd.C_below C33 ly) (by omega)).mono ?_))
      rintro e w38 ⟨rfl, l38⟩
      refine ⟨_, rfl, ?_⟩
      replace b3 := blk_below b3 l38
      replace L := below_step L l38
      replace lx := below_step lx l38
      replace ly := below_step ly l38
      refine E.GL.run rfl rfl rfl (E.Runs.move rfl rfl) ?_
      refine E.GL.run rfl rfl rfl (E.Runs.move rfl rfl) ?_
      refine E.GL.run rfl rfl rfl (E.Runs.move rfl rfl) ?_
      refine E.GL.run rfl rfl rfl (E.Runs.eql rfl rfl rfl (decide_eq_true rfl)) ?_
      refine E.GL.run rfl rfl rfl (E.Runs.pick_t rfl rfl rfl) ?_
      refine E.GL.run rfl rfl rfl (E.Runs.move rfl rfl) ?_
      refine E.GL.st rfl rfl rfl (E.ST.call rfl ent13 E.evn ((works_calls _).mono ?_))
      rintro e w45 ⟨rfl, l45⟩
      refine ⟨_, rfl, ?_⟩
      replace b3 := blk_below b3 l45
      replace L := below_step L l45
      replace lx := below_step lx l45
      replace ly := below_step ly l45
      refine E.GL.run rfl rfl rfl (E.Runs.pick_t rfl rfl rfl) ?_
      refine E.GL.run rfl rfl rfl (E.Runs.assign rfl rfl) ?_
      refine E.GL.done ?_
      refine E.QG.code ?_
      refine E.CG.ret ?_
      exact E.QG.result rfl rfl ⟨rfl, L⟩

end Go.Proofs.Ytbajpjnloikpdaa.T
