/- The document's own text: all pairs, the readings that are wrong, the truths: the walks. -/
import Derived.Test.YtbajpjnloikpdaaP7
namespace Go.Proofs.Ytbajpjnloikpdaa.T
open Go.RowKit Go.Proofs.YtbajpjnloikpdaaW.PrintWords Go.Proofs.YtbajpjnloikpdaaW.PrintMore
open Go.Proofs.Ytbajpjnloikpdaa.P
set_option linter.unusedVariables false
set_option linter.unusedSimpArgs false

set_option maxRecDepth 100000 in
theorem lit46 (p : Ln) (W : World) : (Instr.buildSlice 46 1 #[(0, pv p)]).run Try.prog W = .ok (.slice (some ⟨W.heap.size, 0, none⟩) 1 1) (W.alloc (.cells #[.int .i64 p.f0, .int .i64 p.f1] 54 (0, 0))) := by
  have hu46 := Try.underlying46
  go_simp
set_option maxRecDepth 100000 in
theorem build54 (a b : Int) (W : World) : (Instr.build 54 #[(0, .int .i64 a), (1, .int .i64 b)]).run Try.prog W = .ok (.agg #[.int .i64 a, .int .i64 b]) W := by
  have hu3 := Try.underlying3
  have hu54 := Try.underlying54
  go_simp
theorem pairs_many {M : Lm} (h : HeadOk M) {i j : Nat} (hi : i < nA M) (hj : j < nB M) : (upto M i j).length < 4010 := Nat.lt_of_lt_of_le (upto_lt hi hj) (pairs_few h)
set_option maxRecDepth 100000 in
set_option maxHeartbeats 8000000 in

theorem all_calls (M : Lm) (A : Option Addr) (c : Nat) (w : World) (hH : HeadOk M) :
    Calls Try.prog 58 #[lv M A c] w fun e w' => ∃ v, e = .returned v ∧ Kd.R kL 54 w' w.heap.size (fun _ => True) v (pairs M) ∧ Below w.heap.size w w' := by
  have hu3 := Try.underlying3
  have hu23 := Try.underlying23
  have hu26 := Try.underlying26
  have hu46 := Try.underlying46
  obtain ⟨z3, o3⟩ := info_some info3s (by decide)
  obtain ⟨z23, o23⟩ := info_some info23s (by decide)
  have hH0 := hH
  obtain ⟨⟨f1, f2, f3⟩, _, ⟨f4, f5, f6⟩, _, f7, _⟩ := hH
  refine E.enter (N := 33) Try.func58 rfl Try.ntmps58 (args := [lv M A c]) (by simp) ?_
  have L := Below.refl w.heap.size w
  refine E.CG.seq ?_
  refine E.CG.list ?_
  refine E.GL.st rfl rfl rfl (E.ST.box rfl rfl fun g1 w1 e1 b1 l1 => ?_)
  have h1_L : w.heap.size ≤ g1 := by rw [e1]; exact L.size
  replace L := below_step L l1
  refine E.GL.run rfl rfl rfl (E.Runs.assign rfl rfl) ?_
  refine E.GL.done ?_
  refine E.QG.code ?_
  refine E.CG.seq ?_
  refine E.CG.list ?_
  refine E.GL.run rfl rfl rfl (E.Runs.assign rfl rfl) ?_
  refine E.GL.done ?_
  refine E.QG.code ?_
  refine E.CG.seq ?_
  refine E.CG.seq ?_
  refine E.CG.list ?_
  refine E.GL.run rfl rfl rfl (E.Runs.fieldAddr rfl rfl hu26 rfl (by assumption) rfl) ?_
  refine E.GL.run rfl rfl rfl (E.Runs.fieldAddr rfl rfl hu23 rfl (by assumption) rfl) ?_
  refine E.GL.run rfl rfl rfl (E.Runs.load rfl rfl hu3 (by first | assumption | exact E.blkc (by assumption) rfl | exact pw_cell_below L (by assumption))) ?_
  refine E.GL.run rfl rfl rfl (E.Runs.assign rfl rfl) ?_
  refine E.GL.done ?_
  refine E.QG.code ?_
  refine E.CG.block ?_
  have s3_b1 := b1
  have s3_L := L
  refine E.CG.loop2 (fun (i : Nat) (v3 : Value) => [(1, .pointer (some ⟨g1, 0, none⟩)), (3, v3), (4, .int .i64 (M.fl + i))]) (fun i v3 w' => i ≤ nA M ∧ w'.heap[g1]? = some (.cells #[.int .i64 M.fl, .int .i64 M.fh, .int .i64 M.al, .int .i64 M.ah, .int .i64 M.nl, .int .i64 M.nh, .int .i64 M.ra, .slice A M.gs.length c, .int .i64 M.wr] 26 (0, 0)) ∧ Below w.heap.size w w' ∧ Kd.R kL 54 w' w.heap.size (fun _ => True) v3 (upto M i 0)) (fun i v3 => nA M - i) 0 (.slice none 0 0) (E.subc rfl (E.subc rfl (E.subc (congrArg (fun t => some (Value.int .i64 t)) (show M.fl = M.fl + ((0 : Nat) : Int) by omega)) E.subn))) ⟨Nat.zero_le _, b1, L, Kd.R_nil _ _ _ _ _⟩ ?_
  rintro i v3 w3 ⟨hi, b1, L, R3⟩
  refine E.CG.seq ?_
  refine E.CG.seq ?_
  refine E.CG.list ?_
  refine E.GL.run rfl rfl rfl (E.Runs.move rfl rfl) ?_
  refine E.GL.run rfl rfl rfl (E.Runs.fieldAddr rfl rfl hu26 rfl (by assumption) rfl) ?_
  refine E.GL.run rfl rfl rfl (E.Runs.fieldAddr rfl rfl hu23 rfl (by assumption) rfl) ?_
  refine E.GL.run rfl rfl rfl (E.Runs.load rfl rfl hu3 (by first | assumption | exact E.blkc (by assumption) rfl | exact pw_cell_below L (by assumption))) ?_
  refine E.GL.cmp rfl rfl rfl (fun _ h => (E.Runs.leq rfl rfl rfl h)) (fun h13 => ?_) (fun h13 => ?_)
  · have hiA : i < nA M := by unfold nA; omega
    refine E.GL.done ?_
    refine E.QG.code ?_
    refine E.CG.cond_t rfl ?_
    refine E.CG.skip ?_
    refine E.QG.code ?_
    refine E.CG.seq ?_
    refine E.CG.block ?_
    refine E.CG.seq ?_
    refine E.CG.list ?_
    refine E.GL.run rfl rfl rfl (E.Runs.fieldAddr rfl rfl hu26 rfl (by assumption) rfl) ?_
    refine E.GL.run rfl rfl rfl (E.Runs.fieldAddr rfl rfl hu23 rfl (by assumption) rfl) ?_
    refine E.GL.run rfl rfl rfl (E.Runs.load rfl rfl hu3 (by first | assumption | exact E.blkc (by assumption) rfl | exact pw_cell_below L (by assumption))) ?_
    refine E.GL.run rfl rfl rfl (E.Runs.assign rfl rfl) ?_
    refine E.GL.done ?_
    refine E.QG.code ?_
    refine E.CG.block ?_
    have s6_b1 := b1
    have s6_L := L
    refine E.CG.loop2 (fun (j : Nat) (v6 : Value) => [(1, .pointer (some ⟨g1, 0, none⟩)), (3, v6), (4, .int .i64 (M.fl + i)), (5, .int .i64 (M.al + j))]) (fun j v6 w' => j ≤ nB M ∧ w'.heap[g1]? = some (.cells #[.int .i64 M.fl, .int .i64 M.fh, .int .i64 M.al, .int .i64 M.ah, .int .i64 M.nl, .int .i64 M.nh, .int .i64 M.ra, .slice A M.gs.length c, .int .i64 M.wr] 26 (0, 0)) ∧ Below w.heap.size w w' ∧ Kd.R kL 54 w' w.heap.size (fun _ => True) v6 (upto M i j)) (fun j v6 => nB M - j) 0 v3 (E.subc rfl (E.subc rfl (E.subc rfl (E.subc (congrArg (fun t => some (Value.int .i64 t)) (show M.al = M.al + ((0 : Nat) : Int) by omega)) E.subn)))) ⟨Nat.zero_le _, b1, L, R3⟩ ?_
    rintro j v6 w6 ⟨hj, b1, L, R6⟩
    refine E.CG.seq ?_
    refine E.CG.seq ?_
    refine E.CG.list ?_
    refine E.GL.run rfl rfl rfl (E.Runs.move rfl rfl) ?_
    refine E.GL.run rfl rfl rfl (E.Runs.fieldAddr rfl rfl hu26 rfl (by assumption) rfl) ?_
    refine E.GL.run rfl rfl rfl (E.Runs.fieldAddr rfl rfl hu23 rfl (by assumption) rfl) ?_
    refine E.GL.run rfl rfl rfl (E.Runs.load rfl rfl hu3 (by first | assumption | exact E.blkc (by assumption) rfl | exact pw_cell_below L (by assumption))) ?_
    refine E.GL.cmp rfl rfl rfl (fun _ h => (E.Runs.leq rfl rfl rfl h)) (fun h23 => ?_) (fun h23 => ?_)
    · have hjB : j < nB M := by unfold nB; omega
      refine E.GL.done ?_
      refine E.QG.code ?_
      refine E.CG.cond_t rfl ?_
      refine E.CG.skip ?_
      refine E.QG.code ?_
      refine E.CG.seq ?_
      refine E.CG.block ?_
      refine E.CG.list ?_
      refine E.GL.run rfl rfl rfl (E.Runs.move rfl rfl) ?_
      refine E.GL.run rfl rfl rfl (E.Runs.move rfl rfl) ?_
      refine E.GL.run rfl rfl rfl (E.Runs.move rfl rfl) ?_
      refine E.GL.run rfl rfl rfl (E.Runs.build rfl (E.epc rfl (E.epc rfl E.epn)) (build54 _ _)) ?_
      refine E.GL.st rfl rfl rfl (E.ST.lit rfl (E.epc rfl E.epn) (lit46 (pt M i j)) ?_)
      refine E.GL.st rfl rfl rfl (E.ST.append kL w.heap.size (w0 := w) (s := .tmp 26) (x := .tmp 30) rfl hu46 info54 rfl (by decide) (by decide) (pt M i j) rfl rfl (k80_mkM _ _ _ _) (fun _ _ => trivial) R6 L L.size (by have := pairs_many hH0 hiA hjB; omega) fun u31 w31 r31 k31 gr31 => ?_)
      replace b1 := blk_grown b1 gr31 (Kd.R_ne R6 b1 (by decide))
      replace L := k31
      refine E.GL.run rfl rfl rfl (E.Runs.assign rfl rfl) ?_
      refine E.GL.done ?_
      refine E.QG.block_normal ?_
      refine E.QG.code ?_
      refine E.CG.list ?_
      refine E.GL.run rfl rfl rfl (E.Runs.move rfl rfl) ?_
      refine E.GL.run rfl rfl rfl (E.Runs.add rfl rfl rfl (IntWalk.i64_in _ (by omega))) ?_
      refine E.GL.run rfl rfl rfl (E.Runs.assign rfl rfl) ?_
      refine E.GL.done ?_
      exact E.QG.round2 (d := undef) (j + 1) _ (E.subc rfl (E.subc rfl (E.subc rfl (E.subc (by rw [show M.al + ((j + 1 : Nat) : Int) = M.al + (j : Int) + 1 by omega]; rfl) E.subn)))) ⟨by omega, b1, L, by rw [upto_step]; exact r31⟩ (by omega)
    · have hjB : j = nB M := by unfold nB at hj ⊢; omega
      refine E.GL.done ?_
      refine E.QG.code ?_
      refine E.CG.cond_f rfl ?_
      refine E.CG.exit ?_
      refine E.QG.pass_exit ?_
      refine E.QG.pass_exit ?_
      refine E.QG.block_here ?_
      refine E.QG.block_normal ?_
      refine E.QG.code ?_
      refine E.CG.list ?_
      refine E.GL.run rfl rfl rfl (E.Runs.move rfl rfl) ?_
      refine E.GL.run rfl rfl rfl (E.Runs.add rfl rfl rfl (IntWalk.i64_in _ (by omega))) ?_
      refine E.GL.run rfl rfl rfl (E.Runs.assign rfl rfl) ?_
      refine E.GL.done ?_
      exact E.QG.round2 (d := undef) (i + 1) v6 (E.subc rfl (E.subc rfl (E.subc (by rw [show M.fl + ((i + 1 : Nat) : Int) = M.fl + (i : Int) + 1 by omega]; rfl) E.subn))) ⟨by omega, b1, L, by rw [← upto_row, ← hjB]; exact R6⟩ (by omega)
  · have hiA : i = nA M := by unfold nA at hi ⊢; omega
    refine E.GL.done ?_
    refine E.QG.code ?_
    refine E.CG.cond_f rfl ?_
    refine E.CG.exit ?_
    refine E.QG.pass_exit ?_
    refine E.QG.pass_exit ?_
    refine E.QG.block_here ?_
    refine E.QG.code ?_
    refine E.CG.seq ?_
    refine E.CG.list ?_
    refine E.GL.run rfl rfl rfl (E.Runs.move rfl rfl) ?_
    refine E.GL.run rfl rfl rfl (E.Runs.assign rfl rfl) ?_
    refine E.GL.done ?_
    refine E.QG.code ?_
    refine E.CG.ret ?_
    exact E.QG.result rfl rfl ⟨_, rfl, by rw [← upto_all, ← hiA]; exact R3, L⟩

set_option maxRecDepth 100000 in
set_option maxHeartbeats 8000000 in

theorem new_calls (M : Lm) (A : Option Addr) (c : Nat) (w : World) (hH : HeadOk M) :
    Calls Try.prog 24 #[lv M A c] w fun e w' => ∃ v, e = .returned v ∧ Kd.R kL 54 w' w.heap.size (fun _ => True) v (pairs M) ∧ Below w.heap.size w w' := by
  have hu26 := Try.underlying26
  refine E.enter (N := 5) Try.func24 rfl Try.ntmps24 (args := [lv M A c]) (by simp) ?_
  have L := Below.refl w.heap.size w
  refine E.CG.seq ?_
  refine E.CG.list ?_
  refine E.GL.st rfl rfl rfl (E.ST.box rfl rfl fun g1 w1 e1 b1 l1 => ?_)
  have h1_L : w.heap.size ≤ g1 := by rw [e1]; exact L.size
  replace L := below_step L l1
  refine E.GL.run rfl rfl rfl (E.Runs.assign rfl rfl) ?_
  refine E.GL.done ?_
  refine E.QG.code ?_
  refine E.CG.seq ?_
  refine E.CG.list ?_
  refine E.GL.run rfl rfl rfl (E.Runs.loads (cs := [.int .i64 M.fl, .int .i64 M.fh, .int .i64 M.al, .int .i64 M.ah, .int .i64 M.nl, .int .i64 M.nh, .int .i64 M.ra, .slice A M.gs.length c, .int .i64 M.wr]) rfl rfl hu26 rfl info26s (blk_cells b1)) ?_
  have hs4 := L.size
  refine E.GL.st rfl rfl rfl (E.ST.call rfl ent58 (E.evc rfl E.evn) ((all_calls M A c _ hH).mono ?_))
  rintro e w4 ⟨v4, rfl, R4, l4⟩
  refine ⟨_, rfl, ?_⟩
  replace b1 := blk_below b1 l4
  replace L := below_step L l4
  refine E.GL.run rfl rfl rfl (E.Runs.assign rfl rfl) ?_
  refine E.GL.done ?_
  refine E.QG.code ?_
  refine E.CG.ret ?_
  exact E.QG.result rfl rfl ⟨_, rfl, Kd.R_lower R4 hs4, L⟩

set_option maxRecDepth 100000 in
set_option maxHeartbeats 8000000 in

theorem wrong_calls (M : Lm) (x : Ln) (A : Option Addr) (c : Nat) (w : World) (hV : LampOk M) (hx : PtOk x) (hr : Kd.C k64 w A M.gs.length M.gs) :
    Calls Try.prog 41 #[lv M A c, pv x] w fun e w' => ∃ v, e = .returned v ∧ Kd.R kI 3 w' w.heap.size (fun _ => True) v (wrongs M x) ∧ Below w.heap.size w w' := by
  have hu3 := Try.underlying3
  have hu24 := Try.underlying24
  have hu26 := Try.underlying26
  have hu27 := Try.underlying27
  have hu54 := Try.underlying54
  have hu64 := Try.underlying64
  obtain ⟨z3, o3⟩ := info_some info3s (by decide)
  obtain ⟨z24, o24⟩ := info_some info24s (by decide)
  obtain ⟨z64, o64⟩ := info_some info64s (by decide)
  have hgl := hV.1.2.2.2.2.1
  refine E.enter (N := 41) Try.func41 rfl Try.ntmps41 (args := [lv M A c, pv x]) (by simp) ?_
  have L := Below.refl w.heap.size w
  refine E.CG.seq ?_
  refine E.CG.list ?_
  refine E.GL.st rfl rfl rfl (E.ST.box rfl rfl fun g2 w2 e2 b2 l2 => ?_)
  have h2_L : w.heap.size ≤ g2 := by rw [e2]; exact L.size
  replace L := below_step L l2
  refine E.GL.st rfl rfl rfl (E.ST.box rfl rfl fun g3 w3 e3 b3 l3 => ?_)
  have h3_L : w.heap.size ≤ g3 := by rw [e3]; exact L.size
  have n3_b2 : g2 ≠ g3 := by have := blk_lt b2; omega
  replace b2 := blk_below b2 l3
  replace L := below_step L l3
  refine E.GL.run rfl rfl rfl (E.Runs.assign rfl rfl) ?_
  refine E.GL.done ?_
  refine E.QG.code ?_
  refine E.CG.seq ?_
  refine E.CG.list ?_
  refine E.GL.run rfl rfl rfl (E.Runs.assign rfl rfl) ?_
  refine E.GL.done ?_
  refine E.QG.code ?_
  refine E.CG.seq ?_
  refine E.CG.seq ?_
  refine E.CG.list ?_
  refine E.GL.run rfl rfl rfl (E.Runs.assign rfl rfl) ?_
  refine E.GL.done ?_
  refine E.QG.code ?_
  refine E.CG.block ?_
  have s3_b2 := b2
  have s3_b3 := b3
  have s3_L := L
  refine E.CG.loop2 (fun (i : Nat) (v5 : Value) => [(2, .pointer (some ⟨g2, 0, none⟩)), (3, .pointer (some ⟨g3, 0, none⟩)), (5, v5), (6, .int .i64 i)]) (fun i v5 w' => i ≤ M.gs.length ∧ w'.heap[g2]? = some (.cells #[.int .i64 M.fl, .int .i64 M.fh, .int .i64 M.al, .int .i64 M.ah, .int .i64 M.nl, .int .i64 M.nh, .int .i64 M.ra, .slice A M.gs.length c, .int .i64 M.wr] 26 (0, 0)) ∧ w'.heap[g3]? = some (.cells #[.int .i64 x.f0, .int .i64 x.f1] 54 (0, 0)) ∧ Below w.heap.size w w' ∧ Kd.R kI 3 w' w.heap.size (fun _ => True) v5 (wrongsF x (M.gs.take i) 0)) (fun i v5 => M.gs.length - i) 0 (.slice none 0 0) (E.subc rfl (E.subc rfl (E.subc rfl (E.subc rfl E.subn)))) ⟨Nat.zero_le _, b2, b3, L, Kd.R_nil _ _ _ _ _⟩ ?_
  rintro i v5 w3 ⟨hi, b2, b3, L, R5⟩
  refine E.CG.seq ?_
  refine E.CG.seq ?_
  refine E.CG.list ?_
  refine E.GL.run rfl rfl rfl (E.Runs.move rfl rfl) ?_
  refine E.GL.run rfl rfl rfl (E.Runs.fieldAddr rfl rfl hu26 rfl (by assumption) rfl) ?_
  refine E.GL.run rfl rfl rfl (E.Runs.load1 rfl rfl hu24 rfl (by first | assumption | exact E.blkc (by assumption) rfl | exact pw_cell_below L (by assumption))) ?_
  refine E.GL.run rfl rfl rfl (E.Runs.len rfl rfl hu24) ?_
  refine E.GL.cmp rfl rfl rfl (fun _ h => (E.Runs.lss rfl rfl rfl h)) (fun h11 => ?_) (fun h11 => ?_)
  · obtain ⟨g, hg⟩ : ∃ g, M.gs[i]? = some g := ⟨_, List.getElem?_eq_getElem (by omega)⟩
    obtain ⟨ad, eA, G⟩ := gauge_at hr hg
    obtain ⟨hg0, hg1⟩ := (hV.2 g (List.mem_of_getElem? hg)).1
    have hiG : (i : Int) < M.gs.length := by omega
    refine E.GL.done ?_
    refine E.QG.code ?_
    refine E.CG.cond_t rfl ?_
    refine E.CG.skip ?_
    refine E.QG.code ?_
    refine E.CG.seq ?_
    refine E.CG.block ?_
    refine E.CG.seq ?_
    refine E.CG.heldH (none) (by kernel_rfl) fun v5 lD hh => ?_
    replace b2 := blk_below b2 lD
    replace b3 := blk_below b3 lD
    replace R5 := Kd.R_below R5 lD
    replace L := below_step L lD
    clear lD
    have s_b2 := b2
    have s_b3 := b3
    have s_L := L
    refine E.GH.take (i := 0) rfl (by kernel_rfl) (by kernel_rfl) (by kernel_rfl) (by intro c a d v w h; cases d <;> exact h) rfl rfl rfl (fun w' hS => (E.Runs.loads (cs := [.int .i64 x.f0, .int .i64 x.f1]) rfl rfl hu54 rfl info54s (blk_cells (blk_grown s_b3 hS E.nen)))) ?_
    refine E.GH.take (i := 1) rfl (by kernel_rfl) (by kernel_rfl) (by kernel_rfl) (by intro c a d v w h; cases d <;> exact h) rfl rfl rfl (fun w' hS => (E.Runs.fieldAddr rfl rfl hu26 rfl (by assumption) rfl)) ?_
    refine E.GH.take (i := 2) rfl (by kernel_rfl) (by kernel_rfl) (by kernel_rfl) (by intro c a d v w h; cases d <;> exact h) rfl rfl rfl (fun w' hS => (E.Runs.load1 rfl rfl hu24 rfl (by first | exact E.keeps hS (E.blkc (by assumption) rfl) (by first | exact E.nen | exact E.nes (by assumption) | exact E.nes (Ne.symm (by assumption))) | exact pw_cell_below (below_step s_L (E.belowG hS)) (by assumption) | exact pw_cell_below (below_step s_L (E.belowG hS)) G.c0 | exact pw_cell_below (below_step s_L (E.belowG hS)) G.c1 | exact pw_cell_below (below_step s_L (E.belowG hS)) G.c2))) ?_
    refine E.GH.take (i := 3) rfl (by kernel_rfl) (by kernel_rfl) (by kernel_rfl) (by intro c a d v w h; cases d <;> exact h) rfl rfl rfl (fun w' hS => (E.Runs.move rfl rfl)) ?_
    refine E.GH.take (i := 4) rfl (by kernel_rfl) (by kernel_rfl) (by kernel_rfl) (by intro c a d v w h; cases d <;> exact h) rfl rfl rfl (fun w' hS => (E.Runs.indexAddrA rfl rfl rfl hu24 (by assumption) (by assumption) (by assumption) (by first | rfl | assumption) rfl)) ?_
    refine E.GH.take (i := 5) rfl (by kernel_rfl) (by kernel_rfl) (by kernel_rfl) (by intro c a d v w h; cases d <;> exact h) rfl rfl rfl (fun w' hS => (E.Runs.fieldAddr rfl rfl hu64 rfl (by assumption) rfl)) ?_
    refine E.GH.take (i := 6) rfl (by kernel_rfl) (by kernel_rfl) (by kernel_rfl) (by intro c a d v w h; cases d <;> exact h) rfl rfl rfl (fun w' hS => (E.Runs.load rfl rfl hu3 (by first | exact E.keeps hS (E.blkc (by assumption) rfl) (by first | exact E.nen | exact E.nes (by assumption) | exact E.nes (Ne.symm (by assumption))) | exact pw_cell_below (below_step s_L (E.belowG hS)) (by assumption) | exact pw_cell_below (below_step s_L (E.belowG hS)) G.c0 | exact pw_cell_below (below_step s_L (E.belowG hS)) G.c1 | exact pw_cell_below (below_step s_L (E.belowG hS)) G.c2))) ?_
    refine E.GH.take (i := 8) rfl (by kernel_rfl) (by kernel_rfl) (by kernel_rfl) (by intro c a d v w h; cases d <;> exact h) rfl rfl rfl (fun w' hS => (E.Runs.fieldAddr rfl rfl hu26 rfl (by assumption) rfl)) ?_
    refine E.GH.take (i := 9) rfl (by kernel_rfl) (by kernel_rfl) (by kernel_rfl) (by intro c a d v w h; cases d <;> exact h) rfl rfl rfl (fun w' hS => (E.Runs.load1 rfl rfl hu24 rfl (by first | exact E.keeps hS (E.blkc (by assumption) rfl) (by first | exact E.nen | exact E.nes (by assumption) | exact E.nes (Ne.symm (by assumption))) | exact pw_cell_below (below_step s_L (E.belowG hS)) (by assumption) | exact pw_cell_below (below_step s_L (E.belowG hS)) G.c0 | exact pw_cell_below (below_step s_L (E.belowG hS)) G.c1 | exact pw_cell_below (below_step s_L (E.belowG hS)) G.c2))) ?_
    refine E.GH.take (i := 10) rfl (by kernel_rfl) (by kernel_rfl) (by kernel_rfl) (by intro c a d v w h; cases d <;> exact h) rfl rfl rfl (fun w' hS => (E.Runs.move rfl rfl)) ?_
    refine E.GH.take (i := 11) rfl (by kernel_rfl) (by kernel_rfl) (by kernel_rfl) (by intro c a d v w h; cases d <;> exact h) rfl rfl rfl (fun w' hS => (E.Runs.indexAddrA rfl rfl rfl hu24 (by assumption) (by assumption) (by assumption) (by first | rfl | assumption) rfl)) ?_
    refine E.GH.take (i := 12) rfl (by kernel_rfl) (by kernel_rfl) (by kernel_rfl) (by intro c a d v w h; cases d <;> exact h) rfl rfl rfl (fun w' hS => (E.Runs.fieldAddr rfl rfl hu64 rfl (by assumption) rfl)) ?_
    refine E.GH.take (i := 13) rfl (by kernel_rfl) (by kernel_rfl) (by kernel_rfl) (by intro c a d v w h; cases d <;> exact h) rfl rfl rfl (fun w' hS => (E.Runs.load rfl rfl hu3 (by first | exact E.keeps hS (E.blkc (by assumption) rfl) (by first | exact E.nen | exact E.nes (by assumption) | exact E.nes (Ne.symm (by assumption))) | exact pw_cell_below (below_step s_L (E.belowG hS)) (by assumption) | exact pw_cell_below (below_step s_L (E.belowG hS)) G.c0 | exact pw_cell_below (below_step s_L (E.belowG hS)) G.c1 | exact pw_cell_below (below_step s_L (E.belowG hS)) G.c2))) ?_
    refine E.GH.take (i := 14) rfl (by kernel_rfl) (by kernel_rfl) (by kernel_rfl) (by intro c a d v w h; cases d <;> exact h) rfl rfl rfl (fun w' hS => (E.Runs.fieldAddr rfl rfl hu26 rfl (by assumption) rfl)) ?_
    refine E.GH.take (i := 15) rfl (by kernel_rfl) (by kernel_rfl) (by kernel_rfl) (by intro c a d v w h; cases d <;> exact h) rfl rfl rfl (fun w' hS => (E.Runs.load1 rfl rfl hu24 rfl (by first | exact E.keeps hS (E.blkc (by assumption) rfl) (by first | exact E.nen | exact E.nes (by assumption) | exact E.nes (Ne.symm (by assumption))) | exact pw_cell_below (below_step s_L (E.belowG hS)) (by assumption) | exact pw_cell_below (below_step s_L (E.belowG hS)) G.c0 | exact pw_cell_below (below_step s_L (E.belowG hS)) G.c1 | exact pw_cell_below (below_step s_L (E.belowG hS)) G.c2))) ?_
    refine E.GH.take (i := 16) rfl (by kernel_rfl) (by kernel_rfl) (by kernel_rfl) (by intro c a d v w h; cases d <;> exact h) rfl rfl rfl (fun w' hS => (E.Runs.move rfl rfl)) ?_
    refine E.GH.take (i := 17) rfl (by kernel_rfl) (by kernel_rfl) (by kernel_rfl) (by intro c a d v w h; cases d <;> exact h) rfl rfl rfl (fun w' hS => (E.Runs.indexAddrA rfl rfl rfl hu24 (by assumption) (by assumption) (by assumption) (by first | rfl | assumption) rfl)) ?_
    refine E.GH.take (i := 18) rfl (by kernel_rfl) (by kernel_rfl) (by kernel_rfl) (by intro c a d v w h; cases d <;> exact h) rfl rfl rfl (fun w' hS => (E.Runs.fieldAddr rfl rfl hu64 rfl (by assumption) rfl)) ?_
    refine E.GH.take (i := 19) rfl (by kernel_rfl) (by kernel_rfl) (by kernel_rfl) (by intro c a d v w h; cases d <;> exact h) rfl rfl rfl (fun w' hS => (E.Runs.load rfl rfl hu3 (by first | exact E.keeps hS (E.blkc (by assumption) rfl) (by first | exact E.nen | exact E.nes (by assumption) | exact E.nes (Ne.symm (by assumption))) | exact pw_cell_below (below_step s_L (E.belowG hS)) (by assumption) | exact pw_cell_below (below_step s_L (E.belowG hS)) G.c0 | exact pw_cell_below (below_step s_L (E.belowG hS)) G.c1 | exact pw_cell_below (below_step s_L (E.belowG hS)) G.c2))) ?_
    refine E.GH.one (i := 7) (by kernel_rfl) rfl ?_
    refine E.GO.st rfl rfl rfl (E.ST.call rfl ent31 (E.evc rfl (E.evc rfl E.evn)) ((light_r x g.f0 _ hx hg0 (by omega)).mono ?_))
    rintro e w21 ⟨rfl, l21⟩
    refine ⟨_, rfl, hh.trans (E.gbB l21), ?_⟩
    replace hh := hh.trans (E.gbB l21)
    replace b2 := blk_below b2 l21
    replace b3 := blk_below b3 l21
    replace R5 := Kd.R_below R5 l21
    replace L := below_step L l21
    by_cases h34 : gOk x g
    · refine E.GH.one (i := 20) (by kernel_rfl) rfl ?_
      refine E.GO.st rfl rfl rfl (E.ST.call rfl ent56 (E.evc rfl (E.evc rfl (E.evc rfl E.evn))) ((within_r (light x g.f0) g.f1 g.f2 true (iff_of_true rfl h34) _).mono ?_))
      rintro e w34 ⟨rfl, l34⟩
      refine ⟨_, rfl, hh.trans (E.gbB l34), ?_⟩
      replace hh := hh.trans (E.gbB l34)
      replace b2 := blk_below b2 l34
      replace b3 := blk_below b3 l34
      replace R5 := Kd.R_below R5 l34
      replace L := below_step L l34
      refine E.GH.take (i := 21) rfl (by kernel_rfl) (by kernel_rfl) (by kernel_rfl) (by intro c a d v w h; cases d <;> exact h) rfl rfl rfl (fun w' hS => (E.Runs.not rfl rfl)) ?_
      refine E.GH.done (by kernel_rfl) ?_
      refine E.QG.code ?_
      refine E.CG.cond_f rfl ?_
      refine E.CG.skip ?_
      refine E.QG.block_normal ?_
      refine E.QG.code ?_
      refine E.CG.list ?_
      refine E.GL.run rfl rfl rfl (E.Runs.move rfl rfl) ?_
      refine E.GL.run rfl rfl rfl (E.Runs.add rfl rfl rfl (IntWalk.i64_in _ (by omega))) ?_
      refine E.GL.run rfl rfl rfl (E.Runs.assign rfl rfl) ?_
      refine E.GL.done ?_
      exact E.QG.round2 (d := undef) (i + 1) _ (E.subc rfl (E.subc rfl (E.subc rfl (E.subc rfl E.subn)))) ⟨by omega, b2, b3, L, by first | (rw [wrongs_step hg, if_pos h34, List.append_nil]; exact R5) | (rw [wrongs_step hg, if_neg h34]; exact r39)⟩ (by omega)
    · refine E.GH.one (i := 20) (by kernel_rfl) rfl ?_
      refine E.GO.st rfl rfl rfl (E.ST.call rfl ent56 (E.evc rfl (E.evc rfl (E.evc rfl E.evn))) ((within_r (light x g.f0) g.f1 g.f2 false (iff_of_false Bool.false_ne_true h34) _).mono ?_))
      rintro e w34 ⟨rfl, l34⟩
      refine ⟨_, rfl, hh.trans (E.gbB l34), ?_⟩
      replace hh := hh.trans (E.gbB l34)
      replace b2 := blk_below b2 l34
      replace b3 := blk_below b3 l34
      replace R5 := Kd.R_below R5 l34
      replace L := below_step L l34
      refine E.GH.take (i := 21) rfl (by kernel_rfl) (by kernel_rfl) (by kernel_rfl) (by intro c a d v w h; cases d <;> exact h) rfl rfl rfl (fun w' hS => (E.Runs.not rfl rfl)) ?_
      refine E.GH.done (by kernel_rfl) ?_
      refine E.QG.code ?_
      refine E.CG.cond_t rfl ?_
      refine E.CG.list ?_
      refine E.GL.run rfl rfl rfl (E.Runs.move rfl rfl) ?_
      refine E.GL.run rfl rfl rfl (E.Runs.move rfl rfl) ?_
      refine E.GL.st rfl rfl rfl (E.ST.lit rfl (E.epc rfl E.epn) (lit27 (i : Int)) ?_)
      refine E.GL.st rfl rfl rfl (E.ST.append kI w.heap.size (w0 := w) (s := .tmp 36) (x := .tmp 38) rfl hu27 info3 rfl (by decide) (by decide) (i : Int) rfl rfl rfl (fun _ _ => trivial) R5 L L.size (by have := wrongsF_len x (M.gs.take i) 0; rw [List.length_take] at this; omega) fun u39 w39 r39 k39 gr39 => ?_)
      replace b2 := blk_grown b2 gr39 (Kd.R_ne R5 b2 (by decide))
      replace b3 := blk_grown b3 gr39 (Kd.R_ne R5 b3 (by decide))
      replace L := k39
      refine E.GL.run rfl rfl rfl (E.Runs.assign rfl rfl) ?_
      refine E.GL.done ?_
      refine E.QG.block_normal ?_
      refine E.QG.code ?_
      refine E.CG.list ?_
      refine E.GL.run rfl rfl rfl (E.Runs.move rfl rfl) ?_
      refine E.GL.run rfl rfl rfl (E.Runs.add rfl rfl rfl (IntWalk.i64_in _ (by omega))) ?_
      refine E.GL.run rfl rfl rfl (E.Runs.assign rfl rfl) ?_
      refine E.GL.done ?_
      exact E.QG.round2 (d := undef) (i + 1) _ (E.subc rfl (E.subc rfl (E.subc rfl (E.subc rfl E.subn)))) ⟨by omega, b2, b3, L, by first | (rw [wrongs_step hg, if_pos h34, List.append_nil]; exact R5) | (rw [wrongs_step hg, if_neg h34]; exact r39)⟩ (by omega)
  · refine E.GL.done ?_
    refine E.QG.code ?_
    refine E.CG.cond_f rfl ?_
    refine E.CG.exit ?_
    refine E.QG.pass_exit ?_
    refine E.QG.pass_exit ?_
    refine E.QG.block_here ?_
    refine E.QG.code ?_
    refine E.CG.seq ?_
    refine E.CG.list ?_
    refine E.GL.run rfl rfl rfl (E.Runs.move rfl rfl) ?_
    refine E.GL.run rfl rfl rfl (E.Runs.assign rfl rfl) ?_
    refine E.GL.done ?_
    refine E.QG.code ?_
    refine E.CG.ret ?_
    have hfin : wrongsF x (M.gs.take i) 0 = wrongs M x := by rw [List.take_of_length_le (by omega)]
    exact E.QG.result rfl rfl ⟨_, rfl, by rw [← hfin]; exact R5, L⟩

end Go.Proofs.Ytbajpjnloikpdaa.T
