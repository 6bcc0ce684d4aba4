/- All lines of a lamp, one behind another: the walk of the function that yields. -/
import Derived.Test.YtbajpjnloikpdaaP1
namespace Go.Proofs.Ytbajpjnloikpdaa.T
open Go.RowKit Go.Proofs.YtbajpjnloikpdaaW.PrintWords Go.Proofs.YtbajpjnloikpdaaW.PrintMore
open Go.Proofs.Ytbajpjnloikpdaa.P
set_option linter.unusedVariables false
set_option linter.unusedSimpArgs false

/-- A line, and the slice of the readings that are wrong by it. -/
abbrev It := Ln × (Option Addr × Nat × Nat)
def itV (x : It) : Array Value := #[pv x.1, .slice x.2.1 x.2.2.1 x.2.2.2]
def key (x : It) : Ln × Nat := (x.1, x.2.2.1)
/-- What a round that goes on keeps: what lay there at the call, and the lamp's own variable. -/
def Keep (w : World) (g : Nat) (X Y : World) : Prop := Below w.heap.size X Y ∧ Y.heap[g]? = X.heap[g]?
def pk (M : Lm) (p : Ln) : Ln × Nat := (p, (wrongs M p).length)
set_option maxRecDepth 100000 in
theorem lit27 (x : Int) (W : World) : (Instr.buildSlice 27 1 #[(0, .int .i64 x)]).run Try.prog W = .ok (.slice (some ⟨W.heap.size, 0, none⟩) 1 1) (W.alloc (.cells #[.int .i64 x] 3 (0, 0))) := by
  have hu27 := Try.underlying27
  go_simp
set_option maxRecDepth 100000 in
theorem build80 (a b : Int) (W : World) : (Instr.build 80 #[(0, .int .i64 a), (1, .int .i64 b)]).run Try.prog W = .ok (.agg #[.int .i64 a, .int .i64 b]) W := by
  have hu3 := Try.underlying3
  have hu80 := Try.underlying80
  go_simp
set_option maxRecDepth 100000 in
set_option maxHeartbeats 8000000 in

theorem lines_run (M : Lm) (A : Option Addr) (c g : Nat) (w W : World) (y k : Nat) (J Jx : List It → World → Prop) (hV : LampOk M) (hB : Below w.heap.size w W) (b1 : W.heap[g]? = some (.cells #[.int .i64 M.fl, .int .i64 M.fh, .int .i64 M.al, .int .i64 M.ah, .int .i64 M.nl, .int .i64 M.nh, .int .i64 M.ra, .slice A M.gs.length c, .int .i64 M.wr] 26 (0, 0))) (hr : Kd.C k64 w A M.gs.length M.gs)
    (hJ : AbidesFrom W.heap.size J) (h0 : J [] W)
    (hY : ∀ pre x W1, J pre W1 → pre.length < (pairs M).length → YieldAt Fence.wide (k - 1) Try.prog y (itV x) W1 fun e W' => (e = .returned (.bool true) ∧ J (pre ++ [x]) W' ∧ Keep w g W1 W') ∨ (e = .returned (.bool false) ∧ Jx (pre ++ [x]) W')) :
    Calls Try.prog 70 #[.func (.yield y) #[] #[], .pointer (some ⟨g, 0, none⟩)] W fun e W' => (∃ v, e = .returned v) ∧ ((∃ xs, xs.map key = (pairs M).map (pk M) ∧ J xs W') ∨ (∃ pre : List It, True ∧ Jx pre W')) := by
  have hu3 := Try.underlying3
  have hu23 := Try.underlying23
  have hu24 := Try.underlying24
  have hu26 := Try.underlying26
  have hu27 := Try.underlying27
  have hu64 := Try.underlying64
  have hu80 := Try.underlying80
  obtain ⟨z3, o3⟩ := info_some info3s (by decide)
  obtain ⟨z23, o23⟩ := info_some info23s (by decide)
  obtain ⟨z24, o24⟩ := info_some info24s (by decide)
  obtain ⟨z64, o64⟩ := info_some info64s (by decide)
  have hH := hV.1
  obtain ⟨⟨f1, f2, f3⟩, _, ⟨f4, f5, f6⟩, _, f7, _⟩ := hV.1
  refine E.enter (N := 60) Try.func70 rfl Try.ntmps70 (args := [.func (.yield y) #[] #[], .pointer (some ⟨g, 0, none⟩)]) (by simp) ?_
  have L := hB
  refine E.CG.seq ?_
  refine E.CG.list ?_
  refine E.GL.run rfl rfl rfl (E.Runs.fieldAddr rfl rfl hu26 rfl (by assumption) rfl) ?_
  refine E.GL.run rfl rfl rfl (E.Runs.fieldAddr rfl rfl hu23 rfl (by assumption) rfl) ?_
  refine E.GL.run rfl rfl rfl (E.Runs.load rfl rfl hu3 (by first | assumption | exact E.blkc (by assumption) rfl | exact pw_cell_below L (by assumption))) ?_
  refine E.GL.run rfl rfl rfl (E.Runs.assign rfl rfl) ?_
  refine E.GL.done ?_
  refine E.QG.code ?_
  refine E.CG.block ?_
  have s1_b1 := b1
  have s1_L := L
  refine E.CG.loop2 (fun (i : Nat) (pre : List It) => [(0, .func (.yield y) #[] #[]), (1, .pointer (some ⟨g, 0, none⟩)), (3, .int .i64 (M.fl + i))]) (fun i pre w' => i ≤ nA M ∧ w'.heap[g]? = some (.cells #[.int .i64 M.fl, .int .i64 M.fh, .int .i64 M.al, .int .i64 M.ah, .int .i64 M.nl, .int .i64 M.nh, .int .i64 M.ra, .slice A M.gs.length c, .int .i64 M.wr] 26 (0, 0)) ∧ Below w.heap.size w w' ∧ J pre w' ∧ pre.map key = (upto M i 0).map (pk M)) (fun i pre => nA M - i) 0 [] (E.subc rfl (E.subc rfl (E.subc (congrArg (fun t => some (Value.int .i64 t)) (show M.fl = M.fl + ((0 : Nat) : Int) by omega)) E.subn))) ⟨Nat.zero_le _, b1, L, h0, rfl⟩ ?_
  rintro i pre w1 ⟨hi, b1, L, hJ1, hmap⟩
  refine E.CG.seq ?_
  refine E.CG.seq ?_
  refine E.CG.list ?_
  refine E.GL.run rfl rfl rfl (E.Runs.move rfl rfl) ?_
  refine E.GL.run rfl rfl rfl (E.Runs.fieldAddr rfl rfl hu26 rfl (by assumption) rfl) ?_
  refine E.GL.run rfl rfl rfl (E.Runs.fieldAddr rfl rfl hu23 rfl (by assumption) rfl) ?_
  refine E.GL.run rfl rfl rfl (E.Runs.load rfl rfl hu3 (by first | assumption | exact E.blkc (by assumption) rfl | exact pw_cell_below L (by assumption))) ?_
  refine E.GL.cmp rfl rfl rfl (fun _ h => (E.Runs.leq rfl rfl rfl h)) (fun h16 => ?_) (fun h16 => ?_)
  · have hiA : i < nA M := by unfold nA; omega
    refine E.GL.done ?_
    refine E.QG.code ?_
    refine E.CG.cond_t rfl ?_
    refine E.CG.skip ?_
    refine E.QG.code ?_
    refine E.CG.seq ?_
    refine E.CG.block ?_
    refine E.CG.seq ?_
    refine E.CG.list ?_
    refine E.GL.run rfl rfl rfl (E.Runs.fieldAddr rfl rfl hu26 rfl (by assumption) rfl) ?_
    refine E.GL.run rfl rfl rfl (E.Runs.fieldAddr rfl rfl hu23 rfl (by assumption) rfl) ?_
    refine E.GL.run rfl rfl rfl (E.Runs.load rfl rfl hu3 (by first | assumption | exact E.blkc (by assumption) rfl | exact pw_cell_below L (by assumption))) ?_
    refine E.GL.run rfl rfl rfl (E.Runs.assign rfl rfl) ?_
    refine E.GL.done ?_
    refine E.QG.code ?_
    refine E.CG.block ?_
    have s4_b1 := b1
    have s4_L := L
    refine E.CG.loop2 (fun (j : Nat) (pre : List It) => [(0, .func (.yield y) #[] #[]), (1, .pointer (some ⟨g, 0, none⟩)), (3, .int .i64 (M.fl + i)), (4, .int .i64 (M.al + j))]) (fun j pre w' => j ≤ nB M ∧ w'.heap[g]? = some (.cells #[.int .i64 M.fl, .int .i64 M.fh, .int .i64 M.al, .int .i64 M.ah, .int .i64 M.nl, .int .i64 M.nh, .int .i64 M.ra, .slice A M.gs.length c, .int .i64 M.wr] 26 (0, 0)) ∧ Below w.heap.size w w' ∧ J pre w' ∧ pre.map key = (upto M i j).map (pk M)) (fun j pre => nB M - j) 0 pre (E.subc rfl (E.subc rfl (E.subc rfl (E.subc (congrArg (fun t => some (Value.int .i64 t)) (show M.al = M.al + ((0 : Nat) : Int) by omega)) E.subn)))) ⟨Nat.zero_le _, b1, L, hJ1, hmap⟩ ?_
    rintro j pre w4 ⟨hj, b1, L, hJ4, hmap⟩
    have lq := Below.refl w4.heap.size w4
    refine E.CG.seq ?_
    refine E.CG.seq ?_
    refine E.CG.list ?_
    refine E.GL.run rfl rfl rfl (E.Runs.move rfl rfl) ?_
    refine E.GL.run rfl rfl rfl (E.Runs.fieldAddr rfl rfl hu26 rfl (by assumption) rfl) ?_
    refine E.GL.run rfl rfl rfl (E.Runs.fieldAddr rfl rfl hu23 rfl (by assumption) rfl) ?_
    refine E.GL.run rfl rfl rfl (E.Runs.load rfl rfl hu3 (by first | assumption | exact E.blkc (by assumption) rfl | exact pw_cell_below L (by assumption) | exact pw_cell_below lq (by assumption))) ?_
    refine E.GL.cmp rfl rfl rfl (fun _ h => (E.Runs.leq rfl rfl rfl h)) (fun h26 => ?_) (fun h26 => ?_)
    · have hjB : j < nB M := by unfold nB; omega
      have hp := pt_ok hH hiA hjB
      refine E.GL.done ?_
      refine E.QG.code ?_
      refine E.CG.cond_t rfl ?_
      refine E.CG.skip ?_
      refine E.QG.code ?_
      refine E.CG.seq ?_
      refine E.CG.block ?_
      refine E.CG.seq ?_
      refine E.CG.list ?_
      refine E.GL.run rfl rfl rfl (E.Runs.move rfl rfl) ?_
      refine E.GL.run rfl rfl rfl (E.Runs.move rfl rfl) ?_
      refine E.GL.run rfl rfl rfl (E.Runs.build rfl (E.epc rfl (E.epc rfl E.epn)) (build80 _ _)) ?_
      refine E.GL.st rfl rfl rfl (E.ST.alloc rfl info80z fun g5 w5 e5 b5 l5 => ?_)
      have h5_L : w.heap.size ≤ g5 := by rw [e5]; exact L.size
      have h5_lq : w4.heap.size ≤ g5 := by rw [e5]; exact lq.size
      have n5_b1 : g ≠ g5 := by have := blk_lt b1; omega
      replace b1 := blk_below b1 l5
      replace L := below_step L l5
      replace lq := below_step lq l5
      refine E.GL.store_whole rfl rfl rfl rfl rfl b5 rfl info80s (two_one _ _) fun wS6_4 c5 lS6_4 => ?_
      replace b1 := blk_grown b1 lS6_4 (E.nes (by first | assumption | exact Ne.symm (by assumption)))
      replace L := E.below_own L h5_L lS6_4
      replace lq := E.below_own lq h5_lq lS6_4
      replace b5 := c5
      clear c5
      refine E.GL.done ?_
      refine E.QG.code ?_
      refine E.CG.seq ?_
      refine E.CG.list ?_
      refine E.GL.run rfl rfl rfl (E.Runs.assign rfl rfl) ?_
      refine E.GL.done ?_
      refine E.QG.code ?_
      refine E.CG.seq ?_
      refine E.CG.seq ?_
      refine E.CG.list ?_
      refine E.GL.run rfl rfl rfl (E.Runs.fieldAddr rfl rfl hu26 rfl (by assumption) rfl) ?_
      refine E.GL.run rfl rfl rfl (E.Runs.load1 rfl rfl hu24 rfl (by first | assumption | exact E.blkc (by assumption) rfl | exact pw_cell_below L (by assumption) | exact pw_cell_below lq (by assumption))) ?_
      refine E.GL.run rfl rfl rfl (E.Runs.len rfl rfl hu24) ?_
      refine E.GL.run rfl rfl rfl (E.Runs.move rfl rfl) ?_
      refine E.GL.done ?_
      refine E.QG.code ?_
      refine E.CG.block ?_
      have s9_b1 := b1
      have s9_b5 := b5
      have s9_L := L
      have s9_lq := lq
      refine E.CG.loop2 (fun (q : Nat) (v6 : Value) => [(0, .func (.yield y) #[] #[]), (1, .pointer (some ⟨g, 0, none⟩)), (3, .int .i64 (M.fl + i)), (4, .int .i64 (M.al + j)), (5, .pointer (some ⟨g5, 0, none⟩)), (6, v6), (33, .slice A M.gs.length c), (34, .int .i64 M.gs.length), (35, .int .i64 q)]) (fun q v6 w' => q ≤ M.gs.length ∧ Below wS6_4.heap.size wS6_4 w' ∧ Kd.R kI 3 w' wS6_4.heap.size (fun _ => True) v6 (wrongsF (pt M i j) (M.gs.take q) 0)) (fun q v6 => M.gs.length - q) 0 (.slice none 0 0) (E.subc rfl (E.subc rfl (E.subc rfl (E.subc rfl (E.subc rfl (E.subc rfl (E.subc rfl (E.subc rfl (E.subc rfl E.subn))))))))) ⟨Nat.zero_le _, Below.refl _ _, Kd.R_nil _ _ _ _ _⟩ ?_
      rintro q v6 w9 ⟨hq, lr, R6⟩
      replace b1 := blk_below b1 lr
      replace b5 := blk_below b5 lr
      replace L := below_step L lr
      replace lq := below_step lq lr
      refine E.CG.seq ?_
      refine E.CG.list ?_
      refine E.GL.cmp rfl rfl rfl (fun _ h => (E.Runs.lss rfl rfl rfl h)) (fun h36 => ?_) (fun h36 => ?_)
      · obtain ⟨ga, hg⟩ : ∃ g, M.gs[q]? = some g := ⟨_, List.getElem?_eq_getElem (by omega)⟩
        obtain ⟨ad, eA, G⟩ := gauge_at hr hg
        obtain ⟨hg0, hg1⟩ := (hV.2 ga (List.mem_of_getElem? hg)).1
        refine E.GL.done ?_
        refine E.QG.code ?_
        refine E.CG.seq ?_
        refine E.CG.cond_t rfl ?_
        refine E.CG.skip ?_
        refine E.QG.code ?_
        refine E.CG.seq ?_
        refine E.CG.block ?_
        refine E.CG.seq ?_
        refine E.CG.list ?_
        refine E.GL.run rfl rfl rfl (E.Runs.move rfl rfl) ?_
        refine E.GL.run rfl rfl rfl (E.Runs.indexAddrA rfl rfl rfl hu24 (by assumption) (by assumption) (by assumption) (by first | rfl | assumption) rfl) ?_
        refine E.GL.run rfl rfl rfl (E.Runs.loads (cs := [.int .i64 ga.f0, .int .i64 ga.f1, .int .i64 ga.f2]) rfl rfl hu64 rfl info64s ((G.below L).cells)) ?_
        refine E.GL.st rfl rfl rfl (E.ST.alloc rfl info64z fun g8 w8 e8 b8 l8 => ?_)
        have h8_L : w.heap.size ≤ g8 := by rw [e8]; exact L.size
        have h8_lq : w4.heap.size ≤ g8 := by rw [e8]; exact lq.size
        have h8_lr : wS6_4.heap.size ≤ g8 := by rw [e8]; exact lr.size
        have n8_b1 : g ≠ g8 := by have := blk_lt b1; omega
        have n8_b5 : g5 ≠ g8 := by have := blk_lt b5; omega
        have n8_R6 : some g8 ≠ (v6).ownBlock := fun h => by have := Kd.R_lt R6 _ h.symm; omega
        replace b1 := blk_below b1 l8
        replace b5 := blk_below b5 l8
        replace R6 := Kd.R_below R6 l8
        replace L := below_step L l8
        replace lq := below_step lq l8
        replace lr := below_step lr l8
        refine E.GL.run rfl rfl rfl (E.Runs.assign rfl rfl) ?_
        refine E.GL.store_whole rfl rfl rfl rfl rfl b8 rfl info64s (three_one _ _ _) fun wS10_5 c8 lS10_5 => ?_
        replace b1 := blk_grown b1 lS10_5 (E.nes (by first | assumption | exact Ne.symm (by assumption)))
        replace b5 := blk_grown b5 lS10_5 (E.nes (by first | assumption | exact Ne.symm (by assumption)))
        replace R6 := Kd.R_grown1 R6 rfl lS10_5 (by first | assumption | exact Kd.R_ne R6 b8 (by decide))
        replace L := E.below_own L h8_L lS10_5
        replace lq := E.below_own lq h8_lq lS10_5
        replace lr := E.below_own lr h8_lr lS10_5
        replace b8 := c8
        clear c8
        refine E.GL.done ?_
        refine E.QG.code ?_
        refine E.CG.seq ?_
        refine E.CG.heldH (none) (by kernel_rfl) fun v11 lD hh => ?_
        replace b1 := blk_below b1 lD
        replace b5 := blk_below b5 lD
        replace b8 := blk_below b8 lD
        replace R6 := Kd.R_below R6 lD
        replace L := below_step L lD
        replace lq := below_step lq lD
        replace lr := below_step lr lD
        clear lD
        have s_b1 := b1
        have s_b5 := b5
        have s_b8 := b8
        have s_L := L
        have s_lq := lq
        have s_lr := lr
        refine E.GH.take (i := 0) rfl (by kernel_rfl) (by kernel_rfl) (by kernel_rfl) (by intro c a d v w h; cases d <;> exact h) rfl rfl rfl (fun w' hS => (E.Runs.loads (cs := [.int .i64 (M.fl + i), .int .i64 (M.al + j)]) rfl rfl hu80 rfl info80s (blk_cells (blk_grown s_b5 hS E.nen)))) ?_
        refine E.GH.take (i := 1) rfl (by kernel_rfl) (by kernel_rfl) (by kernel_rfl) (by intro c a d v w h; cases d <;> exact h) rfl rfl rfl (fun w' hS => (E.Runs.fieldAddr rfl rfl hu64 rfl (by assumption) rfl)) ?_
        refine E.GH.take (i := 2) rfl (by kernel_rfl) (by kernel_rfl) (by kernel_rfl) (by intro c a d v w h; cases d <;> exact h) rfl rfl rfl (fun w' hS => (E.Runs.load rfl rfl hu3 (by first | exact E.keeps hS (E.blkc (by assumption) rfl) (by first | exact E.nen | exact E.nes (by assumption) | exact E.nes (Ne.symm (by assumption))) | exact pw_cell_below (below_step s_L (E.belowG hS)) (by assumption) | exact pw_cell_below (below_step s_lq (E.belowG hS)) (by assumption) | exact pw_cell_below (below_step s_lr (E.belowG hS)) (by assumption)))) ?_
        refine E.GH.take (i := 4) rfl (by kernel_rfl) (by kernel_rfl) (by kernel_rfl) (by intro c a d v w h; cases d <;> exact h) rfl rfl rfl (fun w' hS => (E.Runs.fieldAddr rfl rfl hu64 rfl (by assumption) rfl)) ?_
        refine E.GH.take (i := 5) rfl (by kernel_rfl) (by kernel_rfl) (by kernel_rfl) (by intro c a d v w h; cases d <;> exact h) rfl rfl rfl (fun w' hS => (E.Runs.load rfl rfl hu3 (by first | exact E.keeps hS (E.blkc (by assumption) rfl) (by first | exact E.nen | exact E.nes (by assumption) | exact E.nes (Ne.symm (by assumption))) | exact pw_cell_below (below_step s_L (E.belowG hS)) (by assumption) | exact pw_cell_below (below_step s_lq (E.belowG hS)) (by assumption) | exact pw_cell_below (below_step s_lr (E.belowG hS)) (by assumption)))) ?_
        refine E.GH.take (i := 6) rfl (by kernel_rfl) (by kernel_rfl) (by kernel_rfl) (by intro c a d v w h; cases d <;> exact h) rfl rfl rfl (fun w' hS => (E.Runs.fieldAddr rfl rfl hu64 rfl (by assumption) rfl)) ?_
        refine E.GH.take (i := 7) rfl (by kernel_rfl) (by kernel_rfl) (by kernel_rfl) (by intro c a d v w h; cases d <;> exact h) rfl rfl rfl (fun w' hS => (E.Runs.load rfl rfl hu3 (by first | exact E.keeps hS (E.blkc (by assumption) rfl) (by first | exact E.nen | exact E.nes (by assumption) | exact E.nes (Ne.symm (by assumption))) | exact pw_cell_below (below_step s_L (E.belowG hS)) (by assumption) | exact pw_cell_below (below_step s_lq (E.belowG hS)) (by assumption) | exact pw_cell_below (below_step s_lr (E.belowG hS)) (by assumption)))) ?_
        refine E.GH.one (i := 3) (by kernel_rfl) rfl ?_
        refine E.GO.st rfl rfl rfl (E.ST.call rfl ent55 (E.evc rfl (E.evc rfl E.evn)) ((at_o (pt M i j) ga.f0 _ hp hg0 (by omega)).mono ?_))
        rintro e w43 ⟨rfl, l43⟩
        refine ⟨_, rfl, hh.trans (E.gbB l43), ?_⟩
        replace hh := hh.trans (E.gbB l43)
        replace b1 := blk_below b1 l43
        replace b5 := blk_below b5 l43
        replace b8 := blk_below b8 l43
        replace R6 := Kd.R_below R6 l43
        replace L := below_step L l43
        replace lq := below_step lq l43
        replace lr := below_step lr l43
        by_cases h48 : gOk (pt M i j) ga
        · refine E.GH.one (i := 8) (by kernel_rfl) rfl ?_
          refine E.GO.st rfl rfl rfl (E.ST.call rfl ent43 (E.evc rfl (E.evc rfl (E.evc rfl E.evn))) ((within_o (light (pt M i j) ga.f0) ga.f1 ga.f2 true (iff_of_true rfl h48) _).mono ?_))
          rintro e w48 ⟨rfl, l48⟩
          refine ⟨_, rfl, hh.trans (E.gbB l48), ?_⟩
          replace hh := hh.trans (E.gbB l48)
          replace b1 := blk_below b1 l48
          replace b5 := blk_below b5 l48
          replace b8 := blk_below b8 l48
          replace R6 := Kd.R_below R6 l48
          replace L := below_step L l48
          replace lq := below_step lq l48
          replace lr := below_step lr l48
          refine E.GH.take (i := 9) rfl (by kernel_rfl) (by kernel_rfl) (by kernel_rfl) (by intro c a d v w h; cases d <;> exact h) rfl rfl rfl (fun w' hS => (E.Runs.not rfl rfl)) ?_
          refine E.GH.done (by kernel_rfl) ?_
          refine E.QG.code ?_
          refine E.CG.cond_f rfl ?_
          refine E.CG.skip ?_
          refine E.QG.block_normal ?_
          refine E.QG.code ?_
          refine E.CG.list ?_
          refine E.GL.run rfl rfl rfl (E.Runs.add rfl rfl rfl (IntWalk.i64_in _ (by omega))) ?_
          refine E.GL.run rfl rfl rfl (E.Runs.move rfl rfl) ?_
          refine E.GL.done ?_
          exact E.QG.round2 (d := .slice none 0 0) (q + 1) _ (E.subc rfl (E.subc rfl (E.subc rfl (E.subc rfl (E.subc rfl (E.subc rfl (E.subc rfl (E.subc rfl (E.subc rfl E.subn))))))))) ⟨by omega, lr, by first | (rw [wrongs_step hg, if_pos h48, List.append_nil]; exact R6) | (rw [wrongs_step hg, if_neg h48]; exact r53)⟩ (by omega)
        · refine E.GH.one (i := 8) (by kernel_rfl) rfl ?_
          refine E.GO.st rfl rfl rfl (E.ST.call rfl ent43 (E.evc rfl (E.evc rfl (E.evc rfl E.evn))) ((within_o (light (pt M i j) ga.f0) ga.f1 ga.f2 false (iff_of_false Bool.false_ne_true h48) _).mono ?_))
          rintro e w48 ⟨rfl, l48⟩
          refine ⟨_, rfl, hh.trans (E.gbB l48), ?_⟩
          replace hh := hh.trans (E.gbB l48)
          replace b1 := blk_below b1 l48
          replace b5 := blk_below b5 l48
          replace b8 := blk_below b8 l48
          replace R6 := Kd.R_below R6 l48
          replace L := below_step L l48
          replace lq := below_step lq l48
          replace lr := below_step lr l48
          refine E.GH.take (i := 9) rfl (by kernel_rfl) (by kernel_rfl) (by kernel_rfl) (by intro c a d v w h; cases d <;> exact h) rfl rfl rfl (fun w' hS => (E.Runs.not rfl rfl)) ?_
          refine E.GH.done (by kernel_rfl) ?_
          refine E.QG.code ?_
          refine E.CG.cond_t rfl ?_
          refine E.CG.list ?_
          refine E.GL.run rfl rfl rfl (E.Runs.move rfl rfl) ?_
          refine E.GL.run rfl rfl rfl (E.Runs.move rfl rfl) ?_
          refine E.GL.st rfl rfl rfl (E.ST.lit rfl (E.epc rfl E.epn) (lit27 (q : Int)) ?_)
          refine E.GL.st rfl rfl rfl (E.ST.append kI wS6_4.heap.size (w0 := wS6_4) (s := .tmp 50) (x := .tmp 52) rfl hu27 info3 rfl (by decide) (by decide) (q : Int) rfl rfl rfl (fun _ _ => trivial) R6 lr lr.size (by have := wrongsF_len (pt M i j) (M.gs.take q) 0; rw [List.length_take] at this; omega) fun u53 w53 r53 k53 gr53 => ?_)
          replace lr := k53
          replace L := below_step s9_L lr
          replace lq := below_step s9_lq lr
          replace b1 := blk_below s9_b1 lr
          replace b5 := blk_below s9_b5 lr
          clear b8
          refine E.GL.run rfl rfl rfl (E.Runs.assign rfl rfl) ?_
          refine E.GL.done ?_
          refine E.QG.block_normal ?_
          refine E.QG.code ?_
          refine E.CG.list ?_
          refine E.GL.run rfl rfl rfl (E.Runs.add rfl rfl rfl (IntWalk.i64_in _ (by omega))) ?_
          refine E.GL.run rfl rfl rfl (E.Runs.move rfl rfl) ?_
          refine E.GL.done ?_
          exact E.QG.round2 (d := .slice none 0 0) (q + 1) _ (E.subc rfl (E.subc rfl (E.subc rfl (E.subc rfl (E.subc rfl (E.subc rfl (E.subc rfl (E.subc rfl (E.subc rfl E.subn))))))))) ⟨by omega, lr, by first | (rw [wrongs_step hg, if_pos h48, List.append_nil]; exact R6) | (rw [wrongs_step hg, if_neg h48]; exact r53)⟩ (by omega)
      · refine E.GL.done ?_
        refine E.QG.code ?_
        refine E.CG.seq ?_
        refine E.CG.cond_f rfl ?_
        refine E.CG.exit ?_
        refine E.QG.pass_exit ?_
        refine E.QG.pass_exit ?_
        refine E.QG.block_here ?_
        refine E.QG.code ?_
        refine E.CG.seq ?_
        obtain rfl : q = M.gs.length := by omega
        rw [List.take_length] at R6
        obtain ⟨A6, c6, h6⟩ := Kd.R_slice R6
        subst h6
        have hJ9 : J pre w9 := hJ pre w4 w9 none hJ4 (E.gbB lq) (fun _ e => nomatch e)
        have hpl : pre.length = (upto M i j).length := by have := congrArg List.length hmap; simpa using this
        refine E.CG.wide k (E.CI.list ?_)
        refine E.GI.run E.WF.wide rfl rfl rfl rfl (E.Runs.move rfl rfl) ?_
        refine E.GI.run E.WF.wide rfl rfl rfl rfl (E.Runs.loads (cs := [.int .i64 (M.fl + i), .int .i64 (M.al + j)]) rfl rfl hu80 rfl info80s (blk_cells b5)) ?_
        refine E.GI.run E.WF.wide rfl rfl rfl rfl (E.Runs.move rfl rfl) ?_
        refine E.GI.yield E.WF.wide rfl rfl rfl rfl rfl (E.evc rfl (E.evc rfl E.evn)) (hY pre (pt M i j, A6, (wrongs M (pt M i j)).length, c6) w9 hJ9 (by rw [hpl]; exact upto_lt hiA hjB)) ?_
        rintro e w14 (⟨rfl, hJ2, hk⟩ | ⟨rfl, hJ2⟩)
        · refine ⟨_, rfl, ?_⟩
          refine E.GI.run E.WF.wide rfl rfl rfl rfl (E.Runs.not rfl rfl) ?_
          refine E.GI.done ?_
          replace L := L.trans hk.1
          replace b1 := hk.2.trans b1
          refine E.QG.code ?_
          refine E.CG.cond_f rfl ?_
          refine E.CG.skip ?_
          refine E.QG.block_normal ?_
          refine E.QG.code ?_
          refine E.CG.list ?_
          refine E.GL.run rfl rfl rfl (E.Runs.move rfl rfl) ?_
          refine E.GL.run rfl rfl rfl (E.Runs.add rfl rfl rfl (IntWalk.i64_in _ (by omega))) ?_
          refine E.GL.run rfl rfl rfl (E.Runs.assign rfl rfl) ?_
          refine E.GL.done ?_
          exact E.QG.round2 (d := []) (j + 1) _ (E.subc rfl (E.subc rfl (E.subc rfl (E.subc (by rw [show M.al + ((j + 1 : Nat) : Int) = M.al + (j : Int) + 1 by omega]; rfl) E.subn)))) ⟨by omega, b1, L, hJ2, by rw [List.map_append, hmap, upto_step, List.map_append]; rfl⟩ (by omega)
        · refine ⟨_, rfl, ?_⟩
          refine E.GI.run E.WF.wide rfl rfl rfl rfl (E.Runs.not rfl rfl) ?_
          refine E.GI.done ?_
          refine E.QG.code ?_
          refine E.CG.cond_t rfl ?_
          refine E.CG.ret ?_
          refine E.QG.block_ret ?_
          refine E.QG.pass_ret ?_
          refine E.QG.pass_ret ?_
          refine E.QG.block_ret ?_
          refine E.QG.block_ret ?_
          refine E.QG.pass_ret ?_
          refine E.QG.pass_ret ?_
          refine E.QG.block_ret ?_
          exact E.QG.result0 rfl ⟨⟨_, rfl⟩, .inr ⟨_, trivial, hJ2⟩⟩
    · have hjB : j = nB M := by unfold nB at hj ⊢; omega
      refine E.GL.done ?_
      refine E.QG.code ?_
      refine E.CG.cond_f rfl ?_
      refine E.CG.exit ?_
      refine E.QG.pass_exit ?_
      refine E.QG.pass_exit ?_
      refine E.QG.block_here ?_
      refine E.QG.block_normal ?_
      refine E.QG.code ?_
      refine E.CG.list ?_
      refine E.GL.run rfl rfl rfl (E.Runs.move rfl rfl) ?_
      refine E.GL.run rfl rfl rfl (E.Runs.add rfl rfl rfl (IntWalk.i64_in _ (by omega))) ?_
      refine E.GL.run rfl rfl rfl (E.Runs.assign rfl rfl) ?_
      refine E.GL.done ?_
      exact E.QG.round2 (d := []) (i + 1) pre (E.subc rfl (E.subc rfl (E.subc (by rw [show M.fl + ((i + 1 : Nat) : Int) = M.fl + (i : Int) + 1 by omega]; rfl) E.subn))) ⟨by omega, b1, L, hJ4, by rw [hmap, hjB, upto_row]⟩ (by omega)
  · have hiA : i = nA M := by unfold nA at hi ⊢; omega
    refine E.GL.done ?_
    refine E.QG.code ?_
    refine E.CG.cond_f rfl ?_
    refine E.CG.exit ?_
    refine E.QG.pass_exit ?_
    refine E.QG.pass_exit ?_
    refine E.QG.block_here ?_
    exact E.QG.result_n0 rfl ⟨⟨_, rfl⟩, .inl ⟨pre, by rw [hmap, hiA, upto_all], hJ1⟩⟩

set_option maxRecDepth 100000 in
set_option maxHeartbeats 8000000 in

theorem lines_calls (M : Lm) (A : Option Addr) (c : Nat) (w : World) :
    Calls Try.prog 63 #[lv M A c] w fun e w' => ∃ g, e = .returned (.func (.func 70) #[] #[.pointer (some ⟨g, 0, none⟩)]) ∧ w'.heap[g]? = some (.cells #[.int .i64 M.fl, .int .i64 M.fh, .int .i64 M.al, .int .i64 M.ah, .int .i64 M.nl, .int .i64 M.nh, .int .i64 M.ra, .slice A M.gs.length c, .int .i64 M.wr] 26 (0, 0)) ∧ w.heap.size ≤ g ∧ Below w.heap.size w w' := by
  have hu26 := Try.underlying26
  refine E.enter (N := 4) Try.func63 rfl Try.ntmps63 (args := [lv M A c]) (by simp) ?_
  have L := Below.refl w.heap.size w
  refine E.CG.seq ?_
  refine E.CG.list ?_
  refine E.GL.st rfl rfl rfl (E.ST.box rfl rfl fun g1 w1 e1 b1 l1 => ?_)
  have h1_L : w.heap.size ≤ g1 := by rw [e1]; exact L.size
  replace L := below_step L l1
  refine E.GL.run rfl rfl rfl (E.Runs.assign rfl rfl) ?_
  refine E.GL.done ?_
  refine E.QG.code ?_
  refine E.CG.seq ?_
  refine E.CG.list ?_
  refine E.GL.run rfl rfl rfl (E.Runs.makeFunc rfl (E.evc rfl E.evn)) ?_
  refine E.GL.run rfl rfl rfl (E.Runs.assign rfl rfl) ?_
  refine E.GL.done ?_
  refine E.QG.code ?_
  refine E.CG.ret ?_
  exact E.QG.result rfl rfl ⟨_, rfl, b1, h1_L, L⟩

theorem lines_stops (M : Lm) (A : Option Addr) (c g n : Nat) (w w6 : World) (hV : LampOk M) (L : Below w.heap.size w w6) (b : w6.heap[g]? = some (.cells #[.int .i64 M.fl, .int .i64 M.fh, .int .i64 M.al, .int .i64 M.ah, .int .i64 M.nl, .int .i64 M.nh, .int .i64 M.ra, .slice A M.gs.length c, .int .i64 M.wr] 26 (0, 0))) (hr : Kd.C k64 w A M.gs.length M.gs) :
    SeqStopsK Fence.wide n Try.prog 70 #[.pointer (some ⟨g, 0, none⟩)] itV (Keep w g) (fun xs => xs.map key = (pairs M).map (pk M)) (fun _ => True) (pairs M).length w6 :=
  fun l J Jx W hW hJ hJx hY h0 => callsIn_wide.2 (lines_run M A c g w W l n J Jx hV (L.trans (hW.mono L.size)) (blk_below b hW) hr hJ h0 hY)
end Go.Proofs.Ytbajpjnloikpdaa.T
