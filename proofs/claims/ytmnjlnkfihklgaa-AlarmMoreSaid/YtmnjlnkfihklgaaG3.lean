/- Texts of this claim, put together: A12, A13, A14, A15, A16, A17, E15, E16, A18, A19, A20, A21, A22, N13, A23, N14, A24, A25, N15, A26, A27, N11, N12, N16. -/
import Derived.Test.YtmnjlnkfihklgaaG2
import Derived.MapKept
import Derived.Test.YtmnjlnkfihklgaaWEqStruct
import Derived.Test.YtmnjlnkfihklgaaWRepsOne
namespace Go.Proofs.Ytmnjlnkfihklgaa.T
open Go.RowKit Go.Proofs.YtmnjlnkfihklgaaW.PrintWords Go.Proofs.YtmnjlnkfihklgaaW.PrintMore
open Go.Proofs.Ytmnjlnkfihklgaa.P
set_option linter.unusedVariables false
set_option linter.unusedSimpArgs false

/-- The passages of a house of which one is shut. -/
def shutQ (qs : List S45) (i : Nat) : List S45 := qs.set i { qs.getD i P.z45 with f2 := 0 }
theorem shutQ_len (qs : List S45) (i : Nat) : (shutQ qs i).length = qs.length := by unfold shutQ; rw [List.length_set]
theorem shutQ_ok {ps : List Int} {qs : List S45} {i : Nat} (h : HOk ps qs) (hi : i < qs.length) : HOk ps (shutQ qs i) := by
  refine ⟨h.r1, h.r6, by rw [shutQ_len]; exact h.q12, h.p, fun x hx => ?_⟩
  unfold shutQ at hx
  rcases List.mem_or_eq_of_mem_set hx with q | q
  · exact h.q x q
  · have := h.q _ (getD_mem (z := P.z45) hi)
    subst q
    unfold QOk at this ⊢
    simp only
    omega
/-- Without the passage some people are not out. -/
def needP (ps : List Int) (qs : List S45) (T i : Nat) : Prop := ∃ M, IsMost ps (shutQ qs i) T M ∧ M < allP ps
open Classical in
noncomputable def needL (ps : List Int) (qs : List S45) (T : Nat) : Nat → List Int
  | 0 => []
  | i + 1 => needL ps qs T i ++ (if needP ps qs T i then [(i : Int)] else [])
theorem needL_len (ps : List Int) (qs : List S45) (T : Nat) : ∀ i, (needL ps qs T i).length ≤ i
  | 0 => Nat.le_refl _
  | i + 1 => by
    have := needL_len ps qs T i
    rw [needL, List.length_append]
    split <;> simp <;> omega
theorem needL_yes {ps : List Int} {qs : List S45} {T i : Nat} (h : needP ps qs T i) : needL ps qs T (i + 1) = needL ps qs T i ++ [(i : Int)] := by rw [needL, if_pos h]
theorem needL_no {ps : List Int} {qs : List S45} {T i : Nat} (h : ¬ needP ps qs T i) : needL ps qs T (i + 1) = needL ps qs T i := by rw [needL, if_neg h, List.append_nil]
def NeedR (ps : List Int) (qs : List S45) (m : Int) (l : List Int) : Prop := (chkE ps qs m = 0 → l = needL ps qs m.toNat qs.length) ∧ (¬ chkE ps qs m = 0 → l = [])
set_option maxRecDepth 100000 in
set_option maxHeartbeats 8000000 in

theorem needed_calls (ps : List Int) (qs : List S45) (A B : Option Addr) (c d : Nat) (w : World) (hP : Kd.C kI w A ps.length ps) (hQ : Kd.C k45 w B qs.length qs) (hn1 : ps.length ≤ 1000000) (hn2 : qs.length ≤ 1000000) (m : Int) :
    Calls Try.prog 25 #[hv ps qs A B c d, .int .i64 m] w fun e w' => ∃ v l, e = .returned (.tuple #[v, .int .i64 (chkE ps qs m)]) ∧ Kd.R kI 3 w' w.heap.size (fun _ => True) v l ∧ NeedR ps qs m l ∧ Below w.heap.size w w' := by
  have hu3 := Try.underlying3
  have hu22 := Try.underlying22
  have hu23 := Try.underlying23
  have hu25 := Try.underlying25
  have hu76 := Try.underlying76
  obtain ⟨z3, o3⟩ := info_some info3s (by decide)
  obtain ⟨z23, o23⟩ := info_some info23s (by decide)
  obtain ⟨z25, o25⟩ := info_some info25s (by decide)
  refine E.enter (N := 44) Try.func25 rfl Try.ntmps25 (args := [hv ps qs A B c d, .int .i64 m]) (by simp) ?_
  have L := Below.refl w.heap.size w
  refine E.CG.seq ?_
  refine E.CG.list ?_
  refine E.GL.st rfl rfl rfl (E.ST.box rfl rfl fun g2 w2 e2 b2 l2 => ?_)
  have h2_L : w.heap.size ≤ g2 := by rw [e2]; exact L.size
  replace L := below_step L l2
  refine E.GL.run rfl rfl rfl (E.Runs.assign rfl rfl) ?_
  refine E.GL.run rfl rfl rfl (E.Runs.assign rfl rfl) ?_
  refine E.GL.done ?_
  refine E.QG.code ?_
  refine E.CG.seq ?_
  refine E.CG.seq ?_
  refine E.CG.list ?_
  refine E.GL.run rfl rfl rfl (E.Runs.loads (cs := [.slice A ps.length c, .slice B qs.length d]) rfl rfl hu25 rfl info25s (blk_cells b2)) ?_
  refine E.GL.run rfl rfl rfl (E.Runs.move rfl rfl) ?_
  refine E.GL.st rfl rfl rfl (E.ST.call rfl ent45 (E.evc rfl (E.evc rfl E.evn)) ((chk45 ps qs A B c d _ (Kd.C_below hP L) (Kd.C_below hQ L) hn1 hn2 m).mono ?_))
  rintro e w13 ⟨rfl, l13⟩
  refine ⟨_, rfl, ?_⟩
  replace b2 := blk_below b2 l13
  replace L := below_step L l13
  refine E.GL.run rfl rfl rfl (E.Runs.assign rfl rfl) ?_
  refine E.GL.done ?_
  refine E.QG.code ?_
  refine E.CG.seq ?_
  refine E.CG.list ?_
  refine E.GL.run rfl rfl rfl (E.Runs.move rfl rfl) ?_
  refine E.GL.cmpn rfl rfl rfl (fun _ h => (E.Runs.neq rfl rfl rfl h)) (fun h15 => ?_) (fun h15 => ?_)
  · refine E.GL.done ?_
    refine E.QG.code ?_
    refine E.CG.cond_t rfl ?_
    refine E.CG.seq ?_
    refine E.CG.list ?_
    refine E.GL.run rfl rfl rfl (E.Runs.move rfl rfl) ?_
    refine E.GL.run rfl rfl rfl (E.Runs.assign rfl rfl) ?_
    refine E.GL.run rfl rfl rfl (E.Runs.assign rfl rfl) ?_
    refine E.GL.done ?_
    refine E.QG.code ?_
    refine E.CG.ret ?_
    refine E.QG.pass_ret ?_
    exact E.QG.result2 rfl rfl rfl ⟨_, [], rfl, Kd.R_nil _ _ _ _ _, ⟨fun k => absurd k h15, fun _ => rfl⟩, L⟩
  · have hE0 := h15
    obtain ⟨hH, hm0, hm1⟩ := chkE_ok.mp h15
    obtain ⟨T, rfl⟩ : ∃ T : Nat, m = T := ⟨m.toNat, by omega⟩
    have hT : T ≤ 60 := by omega
    have hq12 := hH.q12
    refine E.GL.done ?_
    refine E.QG.code ?_
    refine E.CG.cond_f rfl ?_
    refine E.CG.skip ?_
    refine E.QG.code ?_
    refine E.CG.seq ?_
    refine E.CG.list ?_
    refine E.GL.run rfl rfl rfl (E.Runs.assign rfl rfl) ?_
    refine E.GL.done ?_
    refine E.QG.code ?_
    refine E.CG.seq ?_
    refine E.CG.seq ?_
    refine E.CG.list ?_
    refine E.GL.run rfl rfl rfl (E.Runs.fieldAddr rfl rfl hu25 rfl (by assumption) rfl) ?_
    refine E.GL.run rfl rfl rfl (E.Runs.load1 rfl rfl hu23 rfl (by first | assumption | exact E.blkc (by assumption) rfl | exact pw_cell_below L (by assumption))) ?_
    refine E.GL.run rfl rfl rfl (E.Runs.len rfl rfl hu23) ?_
    refine E.GL.run rfl rfl rfl (E.Runs.move rfl rfl) ?_
    refine E.GL.done ?_
    refine E.QG.code ?_
    refine E.CG.block ?_
    have s6_b2 := b2
    have s6_L := L
    refine E.CG.loop2 (fun (i : Nat) (v7 : Value) => [(1, .int .i64 (T : Int)), (2, .pointer (some ⟨g2, 0, none⟩)), (7, v7), (19, .int .i64 qs.length), (20, .int .i64 i)]) (fun i v7 w' => i ≤ qs.length ∧ w'.heap[g2]? = some (.cells #[.slice A ps.length c, .slice B qs.length d] 25 (0, 0)) ∧ Kd.R kI 3 w' w.heap.size (fun _ => True) v7 (needL ps qs T i) ∧ Below w.heap.size w w') (fun i v7 => qs.length - i) 0 (.slice none 0 0) (E.subc rfl (E.subc rfl (E.subc rfl (E.subc rfl (E.subc rfl E.subn))))) ⟨Nat.zero_le _, b2, Kd.R_nil _ _ _ _ _, L⟩ ?_
    rintro i v7 w6 ⟨hi, b2, R7, L⟩
    refine E.CG.seq ?_
    refine E.CG.list ?_
    refine E.GL.cmp rfl rfl rfl (fun _ h => (E.Runs.lss rfl rfl rfl h)) (fun h21 => ?_) (fun h21 => ?_)
    · have hil : i < qs.length := by omega
      refine E.GL.done ?_
      refine E.QG.code ?_
      refine E.CG.seq ?_
      refine E.CG.cond_t rfl ?_
      refine E.CG.skip ?_
      refine E.QG.code ?_
      refine E.CG.seq ?_
      refine E.CG.block ?_
      refine E.CG.seq ?_
      refine E.CG.list ?_
      refine E.GL.run rfl rfl rfl (E.Runs.move rfl rfl) ?_
      refine E.GL.run rfl rfl rfl (E.Runs.assign rfl rfl) ?_
      refine E.GL.done ?_
      refine E.QG.code ?_
      refine E.CG.seq ?_
      refine E.CG.list ?_
      refine E.GL.run rfl rfl rfl (E.Runs.loads (cs := [.slice A ps.length c, .slice B qs.length d]) rfl rfl hu25 rfl info25s (blk_cells b2)) ?_
      refine E.GL.run rfl rfl rfl (E.Runs.move rfl rfl) ?_
      refine E.GL.st rfl rfl rfl (E.ST.call rfl ent23 (E.evc rfl (E.evc rfl E.evn)) ((shut_calls ps qs A B c d _ (Kd.C_below hP L) (Kd.C_below hQ L) hn1 hn2 (i : Int)).mono ?_))
      rintro e w26 ⟨ps', qs', A', B', c', d', E', rfl, RP, RQ, hSh, l26⟩
      refine ⟨_, rfl, ?_⟩
      replace b2 := blk_below b2 l26
      replace R7 := Kd.R_below R7 l26
      replace L := below_step L l26
      obtain ⟨e1, rfl, rfl⟩ := hSh.2.2 hH ⟨by omega, by omega⟩
      replace e1 := e1.symm
      subst e1
      rw [Int.toNat_natCast] at RQ
      have eQ : qs.set i { qs.getD i P.z45 with f2 := 0 } = shutQ qs i := rfl
      rw [Int.toNat_natCast, eQ]
      rw [eQ] at RQ
      refine E.GL.run rfl rfl rfl (E.Runs.move rfl rfl) ?_
      refine E.GL.run rfl rfl rfl (E.Runs.extract rfl rfl rfl) ?_
      refine E.GL.run rfl rfl rfl (E.Runs.extract rfl rfl rfl) ?_
      refine E.GL.st rfl rfl rfl (E.ST.alloc rfl info25z fun g9 w9 e9 b9 l9 => ?_)
      have h9_L : w.heap.size ≤ g9 := by rw [e9]; exact L.size
      have n9_b2 : g2 ≠ g9 := by have := blk_lt b2; omega
      have n9_R7 : some g9 ≠ (v7).ownBlock := fun h => by have := Kd.R_lt R7 _ h.symm; omega
      have n9_RP : some g9 ≠ ((Value.slice A' ps.length c')).ownBlock := fun h => by have := Kd.R_lt RP _ h.symm; omega
      have n9_RQ : some g9 ≠ ((Value.slice B' (shutQ qs i).length d')).ownBlock := fun h => by have := Kd.R_lt RQ _ h.symm; omega
      replace b2 := blk_below b2 l9
      replace R7 := Kd.R_below R7 l9
      replace RP := Kd.R_below RP l9
      replace RQ := Kd.R_below RQ l9
      replace L := below_step L l9
      refine E.GL.store_whole rfl rfl rfl rfl rfl b9 rfl info25s (slices_one _ _ _ _ _ _) fun wS8_7 c9 lS8_7 => ?_
      replace b2 := blk_grown b2 lS8_7 (E.nes (by first | assumption | exact Ne.symm (by assumption)))
      replace R7 := Kd.R_grown1 R7 rfl lS8_7 (by first | assumption | exact Kd.R_ne R7 b9 (by decide))
      replace RP := Kd.R_grown1 RP rfl lS8_7 (by first | assumption | exact Kd.R_ne RP b9 (by decide))
      replace RQ := Kd.R_grown1 RQ rfl lS8_7 (by first | assumption | exact Kd.R_ne RQ b9 (by decide))
      replace L := E.below_own L h9_L lS8_7
      replace b9 := c9
      clear c9
      refine E.GL.run rfl rfl rfl (E.Runs.assign rfl rfl) ?_
      refine E.GL.done ?_
      refine E.QG.code ?_
      refine E.CG.seq ?_
      refine E.CG.heldH (none) (by kernel_rfl) fun v9 lD hh => ?_
      replace b2 := blk_below b2 lD
      replace b9 := blk_below b9 lD
      replace R7 := Kd.R_below R7 lD
      replace RP := Kd.R_below RP lD
      replace RQ := Kd.R_below RQ lD
      replace L := below_step L lD
      clear lD
      have s_b2 := b2
      have s_b9 := b9
      have s_L := L
      refine E.GH.take (i := 0) rfl (by kernel_rfl) (by kernel_rfl) (by kernel_rfl) (by intro c a d v w h; cases d <;> exact h) rfl rfl rfl (fun w' hS => (E.Runs.loads (cs := [.slice A' ps.length c', .slice B' (shutQ qs i).length d']) rfl rfl hu25 rfl info25s (blk_cells (blk_grown s_b9 hS E.nen)))) ?_
      refine E.GH.take (i := 1) rfl (by kernel_rfl) (by kernel_rfl) (by kernel_rfl) (by intro c a d v w h; cases d <;> exact h) rfl rfl rfl (fun w' hS => (E.Runs.move rfl rfl)) ?_
      refine E.GH.take (i := 6) rfl (by kernel_rfl) (by kernel_rfl) (by kernel_rfl) (by intro c a d v w h; cases d <;> exact h) rfl rfl rfl (fun w' hS => (E.Runs.loads (cs := [.slice A ps.length c, .slice B qs.length d]) rfl rfl hu25 rfl info25s (blk_cells (blk_grown s_b2 hS E.nen)))) ?_
      refine E.GH.one (i := 2) (by kernel_rfl) rfl ?_
      refine E.GO.st rfl rfl rfl (E.ST.call rfl ent51 (E.evc rfl (E.evc rfl E.evn)) ((flow_calls ps (shutQ qs i) T A' B' c' d' _ (shutQ_ok hH hil) hT (Kd.R_reads' RP).2.2 (Kd.R_reads' RQ).2.2).mono ?_))
      rintro e w31 ⟨gN, gE, out, f, rfl, hN, hM, l31⟩
      refine ⟨_, rfl, hh.trans (E.gbB l31), ?_⟩
      replace hh := hh.trans (E.gbB l31)
      replace b2 := blk_below b2 l31
      replace b9 := blk_below b9 l31
      replace R7 := Kd.R_below R7 l31
      replace RP := Kd.R_below RP l31
      replace RQ := Kd.R_below RQ l31
      replace L := below_step L l31
      have hN0 := hN
      refine E.GH.take (i := 3) rfl (by kernel_rfl) (by kernel_rfl) (by kernel_rfl) (by intro c a d v w h; cases d <;> exact h) rfl rfl rfl (fun w' hS => (E.Runs.nilCheck rfl rfl)) ?_
      refine E.GH.take (i := 4) rfl (by kernel_rfl) (by kernel_rfl) (by kernel_rfl) (by intro c a d v w h; cases d <;> exact h) rfl rfl rfl (fun w' hS => (E.Runs.fieldAddr rfl rfl hu76 rfl (by assumption) rfl)) ?_
      refine E.GH.all (rs := [5, 7]) (by kernel_rfl) (by simp) (E.GHs.cons rfl ?_ (E.GHs.cons rfl ?_ E.GHs.nil))
      · refine E.GO.st rfl rfl rfl (E.ST.reads (E.Runs.load rfl rfl hu3 (E.blkc hN.blk rfl)) ⟨hh, ?_⟩)
        refine E.GH.one (i := 7) (by kernel_rfl) rfl ?_
        refine E.GO.st rfl rfl rfl (E.ST.call rfl ent50 (E.evc rfl E.evn) ((souls_calls ps qs A B c d _ (Kd.C_below hP L) hH.p (by have := hH.r6; omega)).mono ?_))
        rintro e w36 ⟨rfl, l36⟩
        refine ⟨_, rfl, hh.trans (E.gbB l36), ?_⟩
        replace hh := hh.trans (E.gbB l36)
        replace b2 := blk_below b2 l36
        replace b9 := blk_below b9 l36
        replace R7 := Kd.R_below R7 l36
        replace RP := Kd.R_below RP l36
        replace RQ := Kd.R_below RQ l36
        replace L := below_step L l36
        replace hN := hN.below l36
        refine E.GH.cmp (i := 8) rfl (by kernel_rfl) (by kernel_rfl) (by kernel_rfl) (by intro c a d v w h; cases d <;> exact h) rfl rfl rfl (fun _ h w' hS => (E.Runs.lss rfl rfl rfl h)) (fun h37 => ?_) (fun h37 => ?_)
        · have hnp : needP ps qs T i := ⟨out, hM.most (shutQ_ok hH hil), h37⟩
          refine E.GH.done (by kernel_rfl) ?_
          refine E.QG.code ?_
          refine E.CG.cond_t rfl ?_
          refine E.CG.list ?_
          refine E.GL.run rfl rfl rfl (E.Runs.move rfl rfl) ?_
          refine E.GL.run rfl rfl rfl (E.Runs.move rfl rfl) ?_
          refine E.GL.st rfl rfl rfl (E.ST.lit rfl (E.epc rfl E.epn) (lit22 (i : Int)) ?_)
          refine E.GL.st rfl rfl rfl (E.ST.append kI w.heap.size (w0 := w) (s := .tmp 38) (x := .tmp 40) rfl hu22 info3 rfl (by decide) (by decide) (i : Int) rfl rfl rfl (fun _ _ => trivial) R7 L L.size (by have := needL_len ps qs T i; omega) fun u41 w41 r41 k41 gr41 => ?_)
          replace b2 := blk_grown b2 gr41 (Kd.R_ne R7 b2 (by decide))
          replace L := k41
          clear R7 k41 gr41
          refine E.GL.run rfl rfl rfl (E.Runs.assign rfl rfl) ?_
          refine E.GL.done ?_
          refine E.QG.block_normal ?_
          refine E.QG.code ?_
          refine E.CG.list ?_
          refine E.GL.run rfl rfl rfl (E.Runs.add rfl rfl rfl (IntWalk.i64_in _ (by omega))) ?_
          refine E.GL.run rfl rfl rfl (E.Runs.move rfl rfl) ?_
          refine E.GL.done ?_
          exact E.QG.round2 (d := .slice none 0 0) (i + 1) _ (E.subc rfl (E.subc rfl (E.subc rfl (E.subc rfl (E.subc rfl E.subn))))) (by first | exact ⟨by omega, b2, by rw [needL_yes hnp]; exact r41, L⟩ | exact ⟨by omega, b2, by rw [needL_no hnp]; exact R7, L⟩ | fail) (by omega)
        · have hnp : ¬ needP ps qs T i := fun ⟨M, k1, k2⟩ => by have := IsMost.one (shutQ_ok hH hil) k1 (hM.most (shutQ_ok hH hil)); omega
          refine E.GH.done (by kernel_rfl) ?_
          refine E.QG.code ?_
          refine E.CG.cond_f rfl ?_
          refine E.CG.skip ?_
          refine E.QG.block_normal ?_
          refine E.QG.code ?_
          refine E.CG.list ?_
          refine E.GL.run rfl rfl rfl (E.Runs.add rfl rfl rfl (IntWalk.i64_in _ (by omega))) ?_
          refine E.GL.run rfl rfl rfl (E.Runs.move rfl rfl) ?_
          refine E.GL.done ?_
          exact E.QG.round2 (d := .slice none 0 0) (i + 1) _ (E.subc rfl (E.subc rfl (E.subc rfl (E.subc rfl (E.subc rfl E.subn))))) (by first | exact ⟨by omega, b2, by rw [needL_yes hnp]; exact r41, L⟩ | exact ⟨by omega, b2, by rw [needL_no hnp]; exact R7, L⟩ | fail) (by omega)
      · refine E.GO.st rfl rfl rfl (E.ST.call rfl ent50 (E.evc rfl E.evn) ((souls_calls ps qs A B c d _ (Kd.C_below hP L) hH.p (by have := hH.r6; omega)).mono ?_))
        rintro e w36 ⟨rfl, l36⟩
        refine ⟨_, rfl, hh.trans (E.gbB l36), ?_⟩
        replace hh := hh.trans (E.gbB l36)
        replace b2 := blk_below b2 l36
        replace b9 := blk_below b9 l36
        replace R7 := Kd.R_below R7 l36
        replace RP := Kd.R_below RP l36
        replace RQ := Kd.R_below RQ l36
        replace L := below_step L l36
        replace hN := hN.below l36
        refine E.GH.one (i := 5) (by kernel_rfl) rfl ?_
        refine E.GO.st rfl rfl rfl (E.ST.reads (E.Runs.load rfl rfl hu3 (E.blkc hN.blk rfl)) ⟨hh, ?_⟩)
        refine E.GH.cmp (i := 8) rfl (by kernel_rfl) (by kernel_rfl) (by kernel_rfl) (by intro c a d v w h; cases d <;> exact h) rfl rfl rfl (fun _ h w' hS => (E.Runs.lss rfl rfl rfl h)) (fun h37 => ?_) (fun h37 => ?_)
        · have hnp : needP ps qs T i := ⟨out, hM.most (shutQ_ok hH hil), h37⟩
          refine E.GH.done (by kernel_rfl) ?_
          refine E.QG.code ?_
          refine E.CG.cond_t rfl ?_
          refine E.CG.list ?_
          refine E.GL.run rfl rfl rfl (E.Runs.move rfl rfl) ?_
          refine E.GL.run rfl rfl rfl (E.Runs.move rfl rfl) ?_
          refine E.GL.st rfl rfl rfl (E.ST.lit rfl (E.epc rfl E.epn) (lit22 (i : Int)) ?_)
          refine E.GL.st rfl rfl rfl (E.ST.append kI w.heap.size (w0 := w) (s := .tmp 38) (x := .tmp 40) rfl hu22 info3 rfl (by decide) (by decide) (i : Int) rfl rfl rfl (fun _ _ => trivial) R7 L L.size (by have := needL_len ps qs T i; omega) fun u41 w41 r41 k41 gr41 => ?_)
          replace b2 := blk_grown b2 gr41 (Kd.R_ne R7 b2 (by decide))
          replace L := k41
          clear R7 k41 gr41
          refine E.GL.run rfl rfl rfl (E.Runs.assign rfl rfl) ?_
          refine E.GL.done ?_
          refine E.QG.block_normal ?_
          refine E.QG.code ?_
          refine E.CG.list ?_
          refine E.GL.run rfl rfl rfl (E.Runs.add rfl rfl rfl (IntWalk.i64_in _ (by omega))) ?_
          refine E.GL.run rfl rfl rfl (E.Runs.move rfl rfl) ?_
          refine E.GL.done ?_
          exact E.QG.round2 (d := .slice none 0 0) (i + 1) _ (E.subc rfl (E.subc rfl (E.subc rfl (E.subc rfl (E.subc rfl E.subn))))) (by first | exact ⟨by omega, b2, by rw [needL_yes hnp]; exact r41, L⟩ | exact ⟨by omega, b2, by rw [needL_no hnp]; exact R7, L⟩ | fail) (by omega)
        · have hnp : ¬ needP ps qs T i := fun ⟨M, k1, k2⟩ => by have := IsMost.one (shutQ_ok hH hil) k1 (hM.most (shutQ_ok hH hil)); omega
          refine E.GH.done (by kernel_rfl) ?_
          refine E.QG.code ?_
          refine E.CG.cond_f rfl ?_
          refine E.CG.skip ?_
          refine E.QG.block_normal ?_
          refine E.QG.code ?_
          refine E.CG.list ?_
          refine E.GL.run rfl rfl rfl (E.Runs.add rfl rfl rfl (IntWalk.i64_in _ (by omega))) ?_
          refine E.GL.run rfl rfl rfl (E.Runs.move rfl rfl) ?_
          refine E.GL.done ?_
          exact E.QG.round2 (d := .slice none 0 0) (i + 1) _ (E.subc rfl (E.subc rfl (E.subc rfl (E.subc rfl (E.subc rfl E.subn))))) (by first | exact ⟨by omega, b2, by rw [needL_yes hnp]; exact r41, L⟩ | exact ⟨by omega, b2, by rw [needL_no hnp]; exact R7, L⟩ | fail) (by omega)
    · have hil : i = qs.length := by omega
      refine E.GL.done ?_
      refine E.QG.code ?_
      refine E.CG.seq ?_
      refine E.CG.cond_f rfl ?_
      refine E.CG.exit ?_
      refine E.QG.pass_exit ?_
      refine E.QG.pass_exit ?_
      refine E.QG.block_here ?_
      refine E.QG.code ?_
      refine E.CG.seq ?_
      refine E.CG.list ?_
      refine E.GL.run rfl rfl rfl (E.Runs.move rfl rfl) ?_
      refine E.GL.run rfl rfl rfl (E.Runs.assign rfl rfl) ?_
      refine E.GL.run rfl rfl rfl (E.Runs.assign rfl rfl) ?_
      refine E.GL.done ?_
      refine E.QG.code ?_
      refine E.CG.ret ?_
      exact E.QG.result2 rfl rfl rfl ⟨_, _, by rw [hE0], R7, ⟨fun _ => by rw [hil]; rfl, fun k => absurd hE0 k⟩, L⟩

end Go.Proofs.Ytmnjlnkfihklgaa.T
namespace Go.Proofs.Ytmnjlnkfihklgaa.T
open Go.RowKit Go.Proofs.YtmnjlnkfihklgaaW.PrintWords Go.Proofs.YtmnjlnkfihklgaaW.PrintMore
open Go.Proofs.Ytmnjlnkfihklgaa.P
set_option linter.unusedVariables false
set_option linter.unusedSimpArgs false

def HrsOk (R : Nat) (m : Int) (hs : List Int) : Prop := (∀ x ∈ hs, inR x 0 (m + 1)) ∧ hs.length = R
instance (R : Nat) (m : Int) (hs : List Int) : Decidable (HrsOk R m hs) := by unfold HrsOk; infer_instance
end Go.Proofs.Ytmnjlnkfihklgaa.T
namespace Go.Proofs.Ytmnjlnkfihklgaa.T
open Go.RowKit Go.Proofs.YtmnjlnkfihklgaaW.PrintWords Go.Proofs.YtmnjlnkfihklgaaW.PrintMore
open Go.Proofs.Ytmnjlnkfihklgaa.P
set_option linter.unusedVariables false
set_option linter.unusedSimpArgs false

/-- A sum over moves. -/
def sumM (h : S35 → Int) : List S35 → Int
  | [] => 0
  | x :: l => h x + sumM h l
theorem sumM_append (h : S35 → Int) : ∀ l k : List S35, sumM h (l ++ k) = sumM h l + sumM h k
  | [], k => by simp [sumM]
  | x :: l, k => by simp only [List.cons_append, sumM, sumM_append h l k]; omega
theorem sumM_step {h : S35 → Int} {l : List S35} {i : Nat} {x : S35} (hx : l[i]? = some x) : sumM h (l.take (i + 1)) = sumM h (l.take i) + h x := by
  rw [List.take_add_one, hx, sumM_append]
  simp [sumM]
theorem sumM_b {h : S35 → Int} {b : Int} : ∀ {l : List S35}, (∀ x ∈ l, 0 ≤ h x ∧ h x ≤ b) → 0 ≤ sumM h l ∧ sumM h l ≤ b * l.length
  | [], _ => by simp [sumM]
  | x :: l, H => by
    have h1 := sumM_b (l := l) (fun y hy => H y (List.mem_cons_of_mem _ hy))
    have h2 := H x List.mem_cons_self
    have h3 : b * ((x :: l).length : Nat) = b * l.length + b := by rw [List.length_cons]; push_cast; rw [Int.mul_add, Int.mul_one]
    rw [h3]
    simp only [sumM]
    omega
/-- Moves whose passage there is. -/
def MvIn (qs : List S45) (l : List S35) : Prop := ∀ x ∈ l, 0 ≤ x.f1 ∧ x.f1 < qs.length ∧ 1 ≤ x.f2 ∧ x.f2 ≤ 20
def outF (qs : List S45) (x : S35) : Int := if (qs.getD x.f1.toNat P.z45).f1 = -1 then x.f2 else 0
def outM (qs : List S45) (l : List S35) : Int := sumM (outF qs) l
theorem outM_b {qs : List S45} {l : List S35} (h : MvIn qs l) : 0 ≤ outM qs l ∧ outM qs l ≤ 20 * l.length := sumM_b fun x hx => by
  have := h x hx
  unfold outF
  split <;> omega
theorem move_at {w : World} {A : Option Addr} {n : Nat} {l : List S35} (h : Kd.C k35 w A n l) {i : Nat} {x : S35} (hi : l[i]? = some x) : ∃ ad, A = some ad ∧ ∀ j u, ([.int .i64 x.f0, .int .i64 x.f1, .int .i64 x.f2] : List Value)[j]? = some u → w.cell? ((ad.add (i * 3)).add j) = some u := by
  have hil : i < l.length := (List.getElem?_eq_some_iff.1 hi).1
  have hn := Kd.C_len h
  obtain ⟨ad, c, e, _, hK, hc0⟩ := Kd.C_get h x (i : Int) (by omega) (by omega)
  have hx : l.getD i x = x := by simp [List.getD_eq_getElem?_getD, hi]
  rw [Int.toNat_natCast, hx] at hK
  rw [Int.toNat_natCast] at hc0
  obtain rfl := k35_open hK
  refine ⟨ad, e, fun j u hu => ?_⟩
  have := hc0 j u hu
  rw [← this]
  congr 1
  exact add_add _ _ _
end Go.Proofs.Ytmnjlnkfihklgaa.T
namespace Go.Proofs.Ytmnjlnkfihklgaa.T
open Go.RowKit Go.Proofs.YtmnjlnkfihklgaaW.PrintWords Go.Proofs.YtmnjlnkfihklgaaW.PrintMore
open Go.Proofs.Ytmnjlnkfihklgaa.P
set_option linter.unusedVariables false
set_option linter.unusedSimpArgs false

set_option maxRecDepth 100000 in
theorem build25 (A B : Option Addr) (n c m d : Nat) (W : World) : (Instr.build 25 #[(0, .slice A n c), (1, .slice B m d)]).run Try.prog W = .ok (.agg #[.slice A n c, .slice B m d]) W := by
  have hu22 := Try.underlying22
  have hu23 := Try.underlying23
  have hu25 := Try.underlying25
  go_simp
set_option maxRecDepth 100000 in
set_option maxHeartbeats 8000000 in

theorem copy_calls (ps : List Int) (qs : List S45) (A B : Option Addr) (c d : Nat) (w : World) (hP : Kd.C kI w A ps.length ps) (hQ : Kd.C k45 w B qs.length qs) (hn1 : ps.length ≤ 1000000) (hn2 : qs.length ≤ 1000000) :
    Calls Try.prog 13 #[hv ps qs A B c d] w fun e w' => ∃ A' B' c' d', e = .returned (hv ps qs A' B' c' d') ∧ Kd.R kI 3 w' w.heap.size (fun _ => True) (.slice A' ps.length c') ps ∧ Kd.R k45 45 w' w.heap.size (fun _ => True) (.slice B' qs.length d') qs ∧ Below w.heap.size w w' := by
  have hu3 := Try.underlying3
  have hu22 := Try.underlying22
  have hu23 := Try.underlying23
  have hu25 := Try.underlying25
  have hu45 := Try.underlying45
  obtain ⟨z3, o3⟩ := info_some info3s (by decide)
  obtain ⟨z22, o22⟩ := info_some info22s (by decide)
  obtain ⟨z23, o23⟩ := info_some info23s (by decide)
  obtain ⟨z25, o25⟩ := info_some info25s (by decide)
  refine E.enter (N := 12) Try.func13 rfl Try.ntmps13 (args := [hv ps qs A B c d]) (by simp) ?_
  have L := Below.refl w.heap.size w
  refine E.CG.seq ?_
  refine E.CG.list ?_
  refine E.GL.st rfl rfl rfl (E.ST.box rfl rfl fun g1 w1 e1 b1 l1 => ?_)
  have h1_L : w.heap.size ≤ g1 := by rw [e1]; exact L.size
  replace L := below_step L l1
  refine E.GL.st rfl rfl rfl (E.ST.alloc rfl info25z fun g2 w2 e2 b2 l2 => ?_)
  have h2_L : w.heap.size ≤ g2 := by rw [e2]; exact L.size
  have n2_b1 : g1 ≠ g2 := by have := blk_lt b1; omega
  replace b1 := blk_below b1 l2
  replace L := below_step L l2
  refine E.GL.done ?_
  refine E.QG.code ?_
  refine E.CG.seq ?_
  refine E.CG.heldH (some g2) (by kernel_rfl) fun v1 lD hh => ?_
  replace b1 := blk_below b1 lD
  replace b2 := blk_below b2 lD
  replace L := below_step L lD
  clear lD
  have s_b1 := b1
  have s_b2 := b2
  have s_L := L
  have LV := Below.refl v1.heap.size v1
  have hvs := L.size
  refine E.GH.take (i := 1) rfl (by kernel_rfl) (by kernel_rfl) (by kernel_rfl) (by intro c a d v w h; cases d <;> exact h) rfl rfl rfl (fun w' hS => (E.Runs.fieldAddr rfl rfl hu25 rfl (by assumption) rfl)) ?_
  refine E.GH.take (i := 2) rfl (by kernel_rfl) (by kernel_rfl) (by kernel_rfl) (by intro c a d v w h; cases d <;> exact h) rfl rfl rfl (fun w' hS => (E.Runs.load1 rfl rfl hu22 rfl (by first | exact E.keeps hS (E.blkc (by assumption) rfl) (by first | exact E.nen | exact E.nes (by assumption) | exact E.nes (Ne.symm (by assumption))) | exact pw_cell_below (E.below_own s_L h2_L hS) (by assumption)))) ?_
  refine E.GH.take (i := 5) rfl (by kernel_rfl) (by kernel_rfl) (by kernel_rfl) (by intro c a d v w h; cases d <;> exact h) rfl rfl rfl (fun w' hS => (E.Runs.fieldAddr rfl rfl hu25 rfl (by assumption) rfl)) ?_
  refine E.GH.take (i := 6) rfl (by kernel_rfl) (by kernel_rfl) (by kernel_rfl) (by intro c a d v w h; cases d <;> exact h) rfl rfl rfl (fun w' hS => (E.Runs.load1 rfl rfl hu23 rfl (by first | exact E.keeps hS (E.blkc (by assumption) rfl) (by first | exact E.nen | exact E.nes (by assumption) | exact E.nes (Ne.symm (by assumption))) | exact pw_cell_below (E.below_own s_L h2_L hS) (by assumption)))) ?_
  refine E.GH.all (rs := [0, 4]) (by kernel_rfl) (by simp) (E.GHs.cons rfl ?_ (E.GHs.cons rfl ?_ E.GHs.nil))
  · refine E.GO.st rfl rfl rfl (E.ST.litAt kI v1.heap.size (w0 := v1) (ys := ([] : List Int)) (inner := []) rfl rfl E.epn lit22n (Reps.none _ _) LV LV.size (by simp) fun u3 w3 r3 k3 l3 n3 => ⟨hh.trans (E.gbB l3), ?_⟩)
    replace hh := hh.trans (E.gbB l3)
    replace b1 := blk_below b1 l3
    replace b2 := blk_below b2 l3
    replace L := below_step L l3
    replace LV := k3
    clear k3
    refine E.GH.all (rs := [3, 4]) (by kernel_rfl) (by simp) (E.GHs.cons rfl ?_ (E.GHs.cons rfl ?_ E.GHs.nil))
    · refine E.GO.st rfl rfl rfl (E.ST.appendRows kI v1.heap.size (w0 := v1) (s := .tmp 3) (x := .tmp 5) rfl hu22 info3 rfl (by decide) (by decide) rfl rfl r3 (Kd.C_below hP L) made22 LV LV.size (by simp only [List.length_nil]; omega) fun u6 w6 r6 k6 g6 => ⟨E.gb_row hh g6 (fun i e => Kd.R_base r3 i e), ?_⟩)
      replace b1 := blk_grown b1 g6 (Kd.R_ne r3 b1 (by decide))
      replace b2 := blk_grown b2 g6 (Kd.R_ne r3 b2 (by decide))
      replace L := L.grown g6 L.size (fun k e => by have := Kd.R_base r3 k e; omega)
      replace hh := E.gb_row hh g6 (fun i e => Kd.R_base r3 i e)
      replace LV := k6
      rw [List.nil_append] at r6
      obtain ⟨A3, c3, hv6⟩ := Kd.R_slice r6
      subst hv6
      clear r3 k6 g6
      refine E.GH.one (i := 4) (by kernel_rfl) rfl ?_
      refine E.GO.st rfl rfl rfl (E.ST.litAt k45 v1.heap.size (w0 := v1) (ys := ([] : List S45)) (inner := []) rfl rfl E.epn lit23n (Reps.none _ _) LV LV.size (by simp) fun u7 w7 r7 k7 l7 n7 => ⟨hh.trans (E.gbB l7), ?_⟩)
      replace hh := hh.trans (E.gbB l7)
      replace b1 := blk_below b1 l7
      replace b2 := blk_below b2 l7
      replace r6 := Kd.R_below r6 l7
      replace L := below_step L l7
      replace LV := k7
      clear k7
      refine E.GH.one (i := 7) (by kernel_rfl) rfl ?_
      refine E.GO.st rfl rfl rfl (E.ST.appendRows k45 v1.heap.size (w0 := v1) (s := .tmp 7) (x := .tmp 9) rfl hu23 info45 rfl (by decide) (by decide) rfl rfl r7 (Kd.C_below hQ L) made23 LV LV.size (by simp only [List.length_nil]; omega) fun u10 w10 r10 k10 g10 => ⟨E.gb_row hh g10 (fun i e => Kd.R_base r7 i e), ?_⟩)
      replace b1 := blk_grown b1 g10 (Kd.R_ne r7 b1 (by decide))
      replace b2 := blk_grown b2 g10 (Kd.R_ne r7 b2 (by decide))
      replace r6 := Kd.R_over' r6 (Kd.R_typed r7) (by decide) g10
      replace L := L.grown g10 L.size (fun k e => by have := Kd.R_base r7 k e; omega)
      replace hh := E.gb_row hh g10 (fun i e => Kd.R_base r7 i e)
      replace LV := k10
      rw [List.nil_append] at r10
      obtain ⟨B3, d3, hv10⟩ := Kd.R_slice r10
      subst hv10
      clear r7 k10 g10
      refine E.GH.take (i := 8) rfl (by kernel_rfl) (by kernel_rfl) (by kernel_rfl) (by intro c a d v w h; cases d <;> exact h) rfl rfl rfl (fun w' hS => (E.Runs.build rfl (E.epc rfl (E.epc rfl E.epn)) (build25 _ _ _ _ _ _))) ?_
      refine E.GH.one (i := 9) (by kernel_rfl) rfl ?_
      refine E.GO.sn rfl rfl (E.ST.storeS (off := 0) (cells := [.slice A3 ps.length c3, .slice B3 qs.length d3]) rfl rfl rfl b2 rfl info25s (slices_one _ _ _ _ _ _) rfl fun wS1_9 c2 lS1_9 => ⟨hh.trans lS1_9, ?_⟩)
      replace hh := hh.trans lS1_9
      replace b1 := blk_grown b1 lS1_9 (E.nes (by first | assumption | exact Ne.symm (by assumption)))
      replace r6 := Kd.R_grown1 r6 rfl lS1_9 (by first | assumption | exact Kd.R_ne r6 b2 (by decide))
      replace r10 := Kd.R_grown1 r10 rfl lS1_9 (by first | assumption | exact Kd.R_ne r10 b2 (by decide))
      replace L := E.below_own L h2_L lS1_9
      replace b2 := c2
      clear c2
      refine E.GH.done (by kernel_rfl) ?_
      refine E.QG.code ?_
      refine E.CG.ret ?_
      exact E.QG.result_c rfl rfl b2 hu25 rfl info25s ⟨A3, B3, c3, d3, rfl, Kd.R_lower r6 hvs, Kd.R_lower r10 hvs, L⟩
    · refine E.GO.st rfl rfl rfl (E.ST.litAt k45 v1.heap.size (w0 := v1) (ys := ([] : List S45)) (inner := []) rfl rfl E.epn lit23n (Reps.none _ _) LV LV.size (by simp) fun u7 w7 r7 k7 l7 n7 => ⟨hh.trans (E.gbB l7), ?_⟩)
      replace hh := hh.trans (E.gbB l7)
      replace b1 := blk_below b1 l7
      replace b2 := blk_below b2 l7
      replace r3 := Kd.R_below r3 l7
      replace L := below_step L l7
      replace LV := k7
      clear k7
      refine E.GH.one (i := 3) (by kernel_rfl) rfl ?_
      refine E.GO.st rfl rfl rfl (E.ST.appendRows kI v1.heap.size (w0 := v1) (s := .tmp 3) (x := .tmp 5) rfl hu22 info3 rfl (by decide) (by decide) rfl rfl r3 (Kd.C_below hP L) made22 LV LV.size (by simp only [List.length_nil]; omega) fun u6 w6 r6 k6 g6 => ⟨E.gb_row hh g6 (fun i e => Kd.R_base r3 i e), ?_⟩)
      replace b1 := blk_grown b1 g6 (Kd.R_ne r3 b1 (by decide))
      replace b2 := blk_grown b2 g6 (Kd.R_ne r3 b2 (by decide))
      replace r7 := Kd.R_over' r7 (Kd.R_typed r3) (by decide) g6
      replace L := L.grown g6 L.size (fun k e => by have := Kd.R_base r3 k e; omega)
      replace hh := E.gb_row hh g6 (fun i e => Kd.R_base r3 i e)
      replace LV := k6
      rw [List.nil_append] at r6
      obtain ⟨A3, c3, hv6⟩ := Kd.R_slice r6
      subst hv6
      clear r3 k6 g6
      refine E.GH.one (i := 7) (by kernel_rfl) rfl ?_
      refine E.GO.st rfl rfl rfl (E.ST.appendRows k45 v1.heap.size (w0 := v1) (s := .tmp 7) (x := .tmp 9) rfl hu23 info45 rfl (by decide) (by decide) rfl rfl r7 (Kd.C_below hQ L) made23 LV LV.size (by simp only [List.length_nil]; omega) fun u10 w10 r10 k10 g10 => ⟨E.gb_row hh g10 (fun i e => Kd.R_base r7 i e), ?_⟩)
      replace b1 := blk_grown b1 g10 (Kd.R_ne r7 b1 (by decide))
      replace b2 := blk_grown b2 g10 (Kd.R_ne r7 b2 (by decide))
      replace r6 := Kd.R_over' r6 (Kd.R_typed r7) (by decide) g10
      replace L := L.grown g10 L.size (fun k e => by have := Kd.R_base r7 k e; omega)
      replace hh := E.gb_row hh g10 (fun i e => Kd.R_base r7 i e)
      replace LV := k10
      rw [List.nil_append] at r10
      obtain ⟨B3, d3, hv10⟩ := Kd.R_slice r10
      subst hv10
      clear r7 k10 g10
      refine E.GH.take (i := 8) rfl (by kernel_rfl) (by kernel_rfl) (by kernel_rfl) (by intro c a d v w h; cases d <;> exact h) rfl rfl rfl (fun w' hS => (E.Runs.build rfl (E.epc rfl (E.epc rfl E.epn)) (build25 _ _ _ _ _ _))) ?_
      refine E.GH.one (i := 9) (by kernel_rfl) rfl ?_
      refine E.GO.sn rfl rfl (E.ST.storeS (off := 0) (cells := [.slice A3 ps.length c3, .slice B3 qs.length d3]) rfl rfl rfl b2 rfl info25s (slices_one _ _ _ _ _ _) rfl fun wS1_9 c2 lS1_9 => ⟨hh.trans lS1_9, ?_⟩)
      replace hh := hh.trans lS1_9
      replace b1 := blk_grown b1 lS1_9 (E.nes (by first | assumption | exact Ne.symm (by assumption)))
      replace r6 := Kd.R_grown1 r6 rfl lS1_9 (by first | assumption | exact Kd.R_ne r6 b2 (by decide))
      replace r10 := Kd.R_grown1 r10 rfl lS1_9 (by first | assumption | exact Kd.R_ne r10 b2 (by decide))
      replace L := E.below_own L h2_L lS1_9
      replace b2 := c2
      clear c2
      refine E.GH.done (by kernel_rfl) ?_
      refine E.QG.code ?_
      refine E.CG.ret ?_
      exact E.QG.result_c rfl rfl b2 hu25 rfl info25s ⟨A3, B3, c3, d3, rfl, Kd.R_lower r6 hvs, Kd.R_lower r10 hvs, L⟩
  · refine E.GO.st rfl rfl rfl (E.ST.litAt k45 v1.heap.size (w0 := v1) (ys := ([] : List S45)) (inner := []) rfl rfl E.epn lit23n (Reps.none _ _) LV LV.size (by simp) fun u7 w7 r7 k7 l7 n7 => ⟨hh.trans (E.gbB l7), ?_⟩)
    replace hh := hh.trans (E.gbB l7)
    replace b1 := blk_below b1 l7
    replace b2 := blk_below b2 l7
    replace L := below_step L l7
    replace LV := k7
    clear k7
    refine E.GH.one (i := 0) (by kernel_rfl) rfl ?_
    refine E.GO.st rfl rfl rfl (E.ST.litAt kI v1.heap.size (w0 := v1) (ys := ([] : List Int)) (inner := []) rfl rfl E.epn lit22n (Reps.none _ _) LV LV.size (by simp) fun u3 w3 r3 k3 l3 n3 => ⟨hh.trans (E.gbB l3), ?_⟩)
    replace hh := hh.trans (E.gbB l3)
    replace b1 := blk_below b1 l3
    replace b2 := blk_below b2 l3
    replace r7 := Kd.R_below r7 l3
    replace L := below_step L l3
    replace LV := k3
    clear k3
    refine E.GH.one (i := 3) (by kernel_rfl) rfl ?_
    refine E.GO.st rfl rfl rfl (E.ST.appendRows kI v1.heap.size (w0 := v1) (s := .tmp 3) (x := .tmp 5) rfl hu22 info3 rfl (by decide) (by decide) rfl rfl r3 (Kd.C_below hP L) made22 LV LV.size (by simp only [List.length_nil]; omega) fun u6 w6 r6 k6 g6 => ⟨E.gb_row hh g6 (fun i e => Kd.R_base r3 i e), ?_⟩)
    replace b1 := blk_grown b1 g6 (Kd.R_ne r3 b1 (by decide))
    replace b2 := blk_grown b2 g6 (Kd.R_ne r3 b2 (by decide))
    replace r7 := Kd.R_over' r7 (Kd.R_typed r3) (by decide) g6
    replace L := L.grown g6 L.size (fun k e => by have := Kd.R_base r3 k e; omega)
    replace hh := E.gb_row hh g6 (fun i e => Kd.R_base r3 i e)
    replace LV := k6
    rw [List.nil_append] at r6
    obtain ⟨A3, c3, hv6⟩ := Kd.R_slice r6
    subst hv6
    clear r3 k6 g6
    refine E.GH.one (i := 7) (by kernel_rfl) rfl ?_
    refine E.GO.st rfl rfl rfl (E.ST.appendRows k45 v1.heap.size (w0 := v1) (s := .tmp 7) (x := .tmp 9) rfl hu23 info45 rfl (by decide) (by decide) rfl rfl r7 (Kd.C_below hQ L) made23 LV LV.size (by simp only [List.length_nil]; omega) fun u10 w10 r10 k10 g10 => ⟨E.gb_row hh g10 (fun i e => Kd.R_base r7 i e), ?_⟩)
    replace b1 := blk_grown b1 g10 (Kd.R_ne r7 b1 (by decide))
    replace b2 := blk_grown b2 g10 (Kd.R_ne r7 b2 (by decide))
    replace r6 := Kd.R_over' r6 (Kd.R_typed r7) (by decide) g10
    replace L := L.grown g10 L.size (fun k e => by have := Kd.R_base r7 k e; omega)
    replace hh := E.gb_row hh g10 (fun i e => Kd.R_base r7 i e)
    replace LV := k10
    rw [List.nil_append] at r10
    obtain ⟨B3, d3, hv10⟩ := Kd.R_slice r10
    subst hv10
    clear r7 k10 g10
    refine E.GH.take (i := 8) rfl (by kernel_rfl) (by kernel_rfl) (by kernel_rfl) (by intro c a d v w h; cases d <;> exact h) rfl rfl rfl (fun w' hS => (E.Runs.build rfl (E.epc rfl (E.epc rfl E.epn)) (build25 _ _ _ _ _ _))) ?_
    refine E.GH.one (i := 9) (by kernel_rfl) rfl ?_
    refine E.GO.sn rfl rfl (E.ST.storeS (off := 0) (cells := [.slice A3 ps.length c3, .slice B3 qs.length d3]) rfl rfl rfl b2 rfl info25s (slices_one _ _ _ _ _ _) rfl fun wS1_9 c2 lS1_9 => ⟨hh.trans lS1_9, ?_⟩)
    replace hh := hh.trans lS1_9
    replace b1 := blk_grown b1 lS1_9 (E.nes (by first | assumption | exact Ne.symm (by assumption)))
    replace r6 := Kd.R_grown1 r6 rfl lS1_9 (by first | assumption | exact Kd.R_ne r6 b2 (by decide))
    replace r10 := Kd.R_grown1 r10 rfl lS1_9 (by first | assumption | exact Kd.R_ne r10 b2 (by decide))
    replace L := E.below_own L h2_L lS1_9
    replace b2 := c2
    clear c2
    refine E.GH.done (by kernel_rfl) ?_
    refine E.QG.code ?_
    refine E.CG.ret ?_
    exact E.QG.result_c rfl rfl b2 hu25 rfl info25s ⟨A3, B3, c3, d3, rfl, Kd.R_lower r6 hvs, Kd.R_lower r10 hvs, L⟩

end Go.Proofs.Ytmnjlnkfihklgaa.T
namespace Go.Proofs.Ytmnjlnkfihklgaa.T
open Go.RowKit Go.Proofs.YtmnjlnkfihklgaaW.PrintWords Go.Proofs.YtmnjlnkfihklgaaW.PrintMore
open Go.Proofs.Ytmnjlnkfihklgaa.P
set_option linter.unusedVariables false
set_option linter.unusedSimpArgs false

/-- A move that is right by itself. -/
def MvOk (qs : List S45) (T : Int) (x : S35) : Prop := inR x.f0 0 T ∧ inR x.f1 0 (qs.length - 1) ∧ 1 ≤ x.f2 ∧ x.f2 ≤ 20 ∧ x.f0 + (qs.getD x.f1.toNat P.z45).f3 ≤ T
/-- How many use a passage in a minute. -/
def usedF (p t : Int) (y : S35) : Int := if y.f0 = t ∧ y.f1 = p then y.f2 else 0
def usedM (l : List S35) (p t : Int) : Int := sumM (usedF p t) l
/-- What a move changes in a room up to a minute. -/
def thF (qs : List S45) (r m : Int) (x : S35) : Int := (if (qs.getD x.f1.toNat P.z45).f1 = r ∧ x.f0 + (qs.getD x.f1.toNat P.z45).f3 ≤ m then x.f2 else 0) - (if (qs.getD x.f1.toNat P.z45).f0 = r ∧ x.f0 ≤ m then x.f2 else 0)
def thM (ps : List Int) (qs : List S45) (l : List S35) (r m : Nat) : Int := ps.getD r 0 + sumM (thF qs r m) l
def Mv1 (qs : List S45) (T : Int) (l : List S35) (i : Nat) (x : S35) : Prop := MvOk qs T x ∧ usedM (l.take (i + 1)) x.f1 x.f0 ≤ (qs.getD x.f1.toNat P.z45).f2
structure IsPl (ps : List Int) (qs : List S45) (T : Nat) (l : List S35) : Prop where
  mv : ∀ (i : Nat) x, l[i]? = some x → Mv1 qs T l i x
  th : ∀ r m, r < ps.length → m ≤ T → 0 ≤ thM ps qs l r m
theorem mvIn_of {qs : List S45} {T : Int} {l : List S35} {n : Nat} (h : ∀ k, k < n → ∀ x, l[k]? = some x → MvOk qs T x) (hn : l.length ≤ n) : MvIn qs l := fun x hx => by
  obtain ⟨k, hk⟩ := List.mem_iff_getElem?.mp hx
  obtain ⟨h1, h2, h3, h4, _⟩ := h k (by have := (List.getElem?_eq_some_iff.1 hk).1; omega) x hk
  unfold inR at h2
  omega
theorem all_more2 {α : Type} {p : Nat → α → Prop} {l : List α} {n : Nat} {g : α} (h : ∀ k, k < n → ∀ x, l[k]? = some x → p k x) (hg : l[n]? = some g) (k : p n g) : ∀ k, k < n + 1 → ∀ x, l[k]? = some x → p k x := by
  intro j hj x hx
  by_cases e : j = n
  · subst e
    rw [hg] at hx
    cases hx
    exact k
  · exact h j (by omega) x hx
theorem usedM_b {qs : List S45} {T : Int} {l : List S35} {n : Nat} (h : ∀ k, k < n → ∀ x, l[k]? = some x → MvOk qs T x) (p t : Int) : 0 ≤ usedM (l.take n) p t ∧ usedM (l.take n) p t ≤ 20 * n := by
  have h1 := sumM_b (h := usedF p t) (b := 20) (l := l.take n) (fun x hx => by
    obtain ⟨k, hk⟩ := List.mem_iff_getElem?.mp hx
    rw [List.getElem?_take] at hk
    split at hk
    · next q =>
      obtain ⟨_, _, h3, h4, _⟩ := h k q x hk
      unfold usedF
      split <;> omega
    · cases hk)
  have h2 : (l.take n).length ≤ n := by rw [List.length_take]; omega
  unfold usedM
  omega
theorem sumM_b2 {h : S35 → Int} {b : Int} : ∀ {l : List S35}, (∀ x ∈ l, -b ≤ h x ∧ h x ≤ b) → -(b * l.length) ≤ sumM h l ∧ sumM h l ≤ b * l.length
  | [], _ => by simp [sumM]
  | x :: l, H => by
    have h1 := sumM_b2 (l := l) (fun y hy => H y (List.mem_cons_of_mem _ hy))
    have h2 := H x List.mem_cons_self
    have h3 : b * ((x :: l).length : Nat) = b * l.length + b := by rw [List.length_cons]; push_cast; rw [Int.mul_add, Int.mul_one]
    rw [h3]
    simp only [sumM]
    omega
end Go.Proofs.Ytmnjlnkfihklgaa.T
namespace Go.Proofs.Ytmnjlnkfihklgaa.T
open Go.RowKit Go.Proofs.YtmnjlnkfihklgaaW.PrintWords Go.Proofs.YtmnjlnkfihklgaaW.PrintMore
open Go.Proofs.Ytmnjlnkfihklgaa.P
set_option linter.unusedVariables false
set_option linter.unusedSimpArgs false

end Go.Proofs.Ytmnjlnkfihklgaa.T
namespace Go.Proofs.Ytmnjlnkfihklgaa.E
open Go.RowKit Go.Proofs.YtmnjlnkfihklgaaW.PrintWords Go.Proofs.YtmnjlnkfihklgaaW.PrintMore
open Go.Proofs.Ytmnjlnkfihklgaa.T
set_option linter.unusedVariables false
set_option linter.unusedSimpArgs false
/-- How keys of a type are found. -/
structure KeyT {κ : Type} (P : Program) (k : TypeId) (ek : κ → Value) : Prop where
  inj : ∀ {x y : κ}, ek x = ek y → x = y
  check : ∀ (em : Bool) (x : κ) (W : World), (Instr.checkKey em 10000 k (ek x)).run P W = .ok () W
  find : ∀ (x : κ) (es : List MapEntry) (W : World), (∀ e ∈ es, ∃ y, e.key = ek y) →
    ((Instr.findKey k (ek x) es).run P W = .ok none W ∧ ∀ e ∈ es, e.key ≠ ek x) ∨ ∃ j e, (Instr.findKey k (ek x) es).run P W = .ok (some (j, e.val)) W ∧ es[j]? = some e ∧ e.key = ek x
  stays : ∀ (x : κ) (W : World), (Instr.keyThatStays (ek x) (ek x)).run P W = .ok (ek x) W
theorem findAsking_of {κ : Type} [DecidableEq κ] {P : Program} {k : TypeId} {ek : κ → Value} (inj : ∀ {x y : κ}, ek x = ek y → x = y) (eq : ∀ (x y : κ) (W : World), (Op.equal k (ek x) (ek y)).run P W = .ok (decide (x = y)) W) (x : κ) (W : World) : ∀ (es : List MapEntry) (i : Nat), (∀ e ∈ es, ∃ y, e.key = ek y) →
    ((Instr.findAsking k (ek x) es i).run P W = .ok none W ∧ ∀ e ∈ es, e.key ≠ ek x) ∨ ∃ j e, (Instr.findAsking k (ek x) es i).run P W = .ok (some (i + j, e.val)) W ∧ es[j]? = some e ∧ e.key = ek x
  | [], i, _ => .inl ⟨by simp [Instr.findAsking], by simp⟩
  | e :: es, i, h => by
    obtain ⟨y, hy⟩ := h e List.mem_cons_self
    unfold Instr.findAsking
    rw [Sem.run_bind, hy, eq x y W]
    by_cases q : x = y
    · subst q
      exact .inr ⟨0, e, by simp [Result.andThen], rfl, hy⟩
    · have q' : e.key ≠ ek x := fun z => q (inj (z.symm.trans hy))
      rcases findAsking_of (P := P) (k := k) inj eq x W es (i + 1) (fun e he => h e (List.mem_cons_of_mem _ he)) with ⟨h1, h2⟩ | ⟨j, e1, h1, h2, h3⟩
      · exact .inl ⟨by simp [q, Result.andThen, h1], fun e' he' => by
          rcases List.mem_cons.mp he' with rfl | he'
          · exact q'
          · exact h2 e' he'⟩
      · exact .inr ⟨j + 1, e1, by simp [q, Result.andThen, h1]; omega, by simpa using h2, h3⟩
theorem KeyT.of_equal {κ : Type} [DecidableEq κ] {P : Program} {k : TypeId} {ek : κ → Value} {d : TypeDesc} (hu : P.underlying k = some d) (inj : ∀ {x y : κ}, ek x = ek y → x = y) (eq : ∀ (x y : κ) (W : World), (Op.equal k (ek x) (ek y)).run P W = .ok (decide (x = y)) W)
    (now : ∀ x v, Instr.sameNow d (ek x) v = none) (check : ∀ (em : Bool) (x : κ) (W : World), (Instr.checkKey em 10000 k (ek x)).run P W = .ok () W) (same : ∀ x, Instr.sameBits 10000 (ek x) (ek x) = true) : KeyT P k ek := by
  refine ⟨inj, check, fun x es W hes => ?_, fun x W => by simp [Instr.keyThatStays, same x]⟩
  unfold Instr.findKey
  rw [Sem.run_bind, run_underlying hu]
  simp only [Result.andThen]
  cases es with
  | nil => exact .inl ⟨by simp [Instr.findNow], by simp⟩
  | cons e es =>
    simp only [Instr.findNow, now x]
    have := findAsking_of (P := P) (k := k) inj eq x W (e :: es) 0 hes
    simpa using this
theorem KeyT.int {P : Program} {k : TypeId} {q : IntKind} (hu : P.underlying k = some (.int q)) : KeyT P k (fun n : Int => Value.int q n) := by
  refine ⟨fun h => by injection h, fun em x W => MapKept.run_checkKey hu (by simp [MapKept.IsKey]) em 9999, fun x es W hes => ?_, fun x W => by simp [Instr.keyThatStays, Instr.sameBits]⟩
  rcases MapKept.findNow_spec (d := .int q) (k := .int q x) (by simp [MapKept.IsKey]) es 0 (fun e he => by
    obtain ⟨y, hy⟩ := hes e he
    rw [hy]
    simp [MapKept.IsKey]) with ⟨h1, h2⟩ | ⟨j, e, h1, h2, h3⟩
  · exact .inl ⟨MapKept.run_findKey hu h1, h2⟩
  · exact .inr ⟨j, e, MapKept.run_findKey hu (by simpa using h1), h2, h3⟩
section
variable {κ ν : Type} [DecidableEq κ]
def getL (l : List (κ × ν)) (x : κ) : Option ν := (l.find? (fun p => decide (p.1 = x))).map (·.2)
theorem getL_none {l : List (κ × ν)} {x : κ} (h : ∀ p ∈ l, p.1 ≠ x) : getL l x = none := by
  unfold getL
  rw [List.find?_eq_none.mpr (fun p hp => by simpa using h p hp)]
  rfl
theorem getL_at : ∀ {l : List (κ × ν)} {x : κ} {v : ν} {j : Nat}, (l.map (·.1)).Nodup → l[j]? = some (x, v) → getL l x = some v
  | [], _, _, _, _, h => by simp at h
  | p :: l, x, v, 0, hn, h => by
    simp at h
    subst h
    simp [getL]
  | p :: l, x, v, j + 1, hn, h => by
    rw [List.map_cons, List.nodup_cons] at hn
    have hm : (x, v) ∈ l := List.mem_of_getElem? (by simpa using h)
    have hne : p.1 ≠ x := fun q => hn.1 (List.mem_map.mpr ⟨_, hm, q.symm⟩)
    have := getL_at (j := j) hn.2 (by simpa using h)
    unfold getL at this ⊢
    rw [List.find?_cons_of_neg (by simpa using hne)]
    exact this
theorem getL_append {l : List (κ × ν)} {x y : κ} {v : ν} (h : ∀ p ∈ l, p.1 ≠ x) : getL (l ++ [(x, v)]) y = if y = x then some v else getL l y := by
  by_cases q : y = x
  · subst q
    rw [if_pos rfl]
    unfold getL
    rw [List.find?_append, List.find?_eq_none.mpr (fun p hp => by simpa using h p hp)]
    simp
  · rw [if_neg q]
    unfold getL
    rw [List.find?_append]
    have : ([(x, v)] : List (κ × ν)).find? (fun p => decide (p.1 = y)) = none := by simp [Ne.symm q]
    rw [this]
    simp
theorem getL_set : ∀ {l : List (κ × ν)} {j : Nat} {x y : κ} {u v : ν}, (l.map (·.1)).Nodup → l[j]? = some (x, u) → getL (l.set j (x, v)) y = if y = x then some v else getL l y
  | [], _, _, _, _, _, _, h => by simp at h
  | p :: l, 0, x, y, u, v, hn, h => by
    simp at h
    subst h
    simp only [List.set_cons_zero]
    unfold getL
    by_cases q : y = x
    · subst q
      simp
    · rw [if_neg q, List.find?_cons_of_neg (by simpa using Ne.symm q), List.find?_cons_of_neg (by simpa using Ne.symm q)]
  | p :: l, j + 1, x, y, u, v, hn, h => by
    rw [List.map_cons, List.nodup_cons] at hn
    have h' : l[j]? = some (x, u) := by simpa using h
    have hne : p.1 ≠ x := fun q => hn.1 (List.mem_map.mpr ⟨_, List.mem_of_getElem? h', q.symm⟩)
    have ih := getL_set (y := y) (v := v) hn.2 h'
    simp only [List.set_cons_succ]
    unfold getL at ih ⊢
    by_cases q : p.1 = y
    · subst q
      rw [List.find?_cons_of_pos (by simp), List.find?_cons_of_pos (by simp), if_neg hne]
    · rw [List.find?_cons_of_neg (by simpa using q), List.find?_cons_of_neg (by simpa using q)]
      exact ih
def upd (f : κ → Option ν) (x : κ) (v : ν) (y : κ) : Option ν := if y = x then some v else f y
/-- The entries of a map, and what it has at each key. -/
structure MfE (ek : κ → Value) (ev : ν → Value) (es : Array MapEntry) (clock : Nat) (l : List (κ × ν)) (f : κ → Option ν) : Prop where
  is : es.toList.map (fun e => (e.key, e.val)) = l.map (fun p => (ek p.1, ev p.2))
  lt : ∀ e ∈ es.toList, e.born < clock
  nb : (es.toList.map (·.born)).Nodup
  nd : (l.map (·.1)).Nodup
  get : ∀ x, getL l x = f x
/-- A map in memory. -/
def Mf (ek : κ → Value) (ev : ν → Value) (w : World) (g : Nat) (f : κ → Option ν) : Prop := ∃ es clock l, w.heap[g]? = some (.map es clock) ∧ MfE ek ev es clock l f
/-- .. and the entry of a key is the one that was made at a time. -/
def MfS (ek : κ → Value) (ev : ν → Value) (w : World) (g : Nat) (f : κ → Option ν) (s : Int) (x : κ) : Prop := ∃ es clock l, w.heap[g]? = some (.map es clock) ∧ MfE ek ev es clock l f ∧ ∃ (j : Nat) (e : MapEntry), es.toList[j]? = some e ∧ e.key = ek x ∧ (e.born : Int) = s
variable {ek : κ → Value} {ev : ν → Value} {P : Program} {k : TypeId} {w w' : World} {g : Nat} {f : κ → Option ν}
theorem Mf.heap (h : Mf ek ev w g f) (e : w'.heap = w.heap) : Mf ek ev w' g f := by unfold Mf at h ⊢; rw [e]; exact h
theorem Mf.grown {row : Option Nat} (h : Mf ek ev w g f) (k : w.grownBy w' row) (hn : some g ≠ row) : Mf ek ev w' g f := by
  obtain ⟨es, clock, l, hb, hE⟩ := h
  exact ⟨es, clock, l, (k.block g (Array.getElem?_eq_some_iff.1 hb).1 hn).trans hb, hE⟩
theorem Mf.below (h : Mf ek ev w g f) (k : Below w.heap.size w w') : Mf ek ev w' g f := by
  obtain ⟨es, clock, l, hb, hE⟩ := h
  exact ⟨es, clock, l, (k.block g (Array.getElem?_eq_some_iff.1 hb).1).trans hb, hE⟩
theorem Mf.lt (h : Mf ek ev w g f) : g < w.heap.size := by
  obtain ⟨es, clock, l, hb, hE⟩ := h
  exact (Array.getElem?_eq_some_iff.1 hb).1
theorem Mf.congr {f' : κ → Option ν} (h : Mf ek ev w g f) (e : ∀ x, f x = f' x) : Mf ek ev w g f' := by
  obtain ⟨es, clock, l, hb, hE⟩ := h
  exact ⟨es, clock, l, hb, hE.is, hE.lt, hE.nb, hE.nd, fun x => (hE.get x).trans (e x)⟩
theorem Mf.made (w : World) : Mf ek ev (w.alloc (.map #[] 0)) w.heap.size (fun _ => none) := ⟨#[], 0, [], (MapKept.heap_alloc w _).1, by simp, by simp, by simp, by simp, fun x => by simp [getL]⟩
theorem MfE.keys {es : Array MapEntry} {clock : Nat} {l : List (κ × ν)} (h : MfE ek ev es clock l f) : ∀ e ∈ es.toList, ∃ y, e.key = ek y := fun e he => by
  have : (e.key, e.val) ∈ l.map (fun p => (ek p.1, ev p.2)) := by rw [← h.is]; exact List.mem_map.mpr ⟨e, he, rfl⟩
  obtain ⟨p, hp, q⟩ := List.mem_map.mp this
  exact ⟨p.1, by injection q with q1 q2; exact q1.symm⟩
theorem MfE.at_ {es : Array MapEntry} {clock : Nat} {l : List (κ × ν)} (h : MfE ek ev es clock l f) (K : KeyT P k ek) {j : Nat} {e : MapEntry} {x : κ} (hj : es.toList[j]? = some e) (hk : e.key = ek x) : ∃ v, l[j]? = some (x, v) ∧ f x = some v ∧ e.val = ev v := by
  have h1 : (es.toList.map (fun e => (e.key, e.val)))[j]? = some (e.key, e.val) := by rw [List.getElem?_map, hj]; rfl
  rw [h.is, List.getElem?_map] at h1
  obtain ⟨p, hp, q⟩ := Option.map_eq_some_iff.mp h1
  injection q with q1 q2
  have : p.1 = x := K.inj (q1.trans hk)
  obtain ⟨p1, p2⟩ := p
  simp only at this q2
  subst this
  exact ⟨p2, hp, by rw [← h.get]; exact getL_at h.nd hp, q2.symm⟩
theorem MfE.no {es : Array MapEntry} {clock : Nat} {l : List (κ × ν)} (h : MfE ek ev es clock l f) {x : κ} (hn : ∀ e ∈ es.toList, e.key ≠ ek x) : (∀ p ∈ l, p.1 ≠ x) ∧ f x = none := by
  have h1 : ∀ p ∈ l, p.1 ≠ x := fun p hp q => by
    have : (ek p.1, ev p.2) ∈ es.toList.map (fun e => (e.key, e.val)) := by rw [h.is]; exact List.mem_map.mpr ⟨p, hp, rfl⟩
    obtain ⟨e, he, q2⟩ := List.mem_map.mp this
    injection q2 with q3 q4
    exact hn e he (by rw [q3, q])
  exact ⟨h1, by rw [← h.get]; exact getL_none h1⟩
theorem MfE.push {es : Array MapEntry} {clock : Nat} {l : List (κ × ν)} (h : MfE ek ev es clock l f) {x : κ} (hn : ∀ p ∈ l, p.1 ≠ x) (v : ν) : MfE ek ev (es.push { key := ek x, val := ev v, born := clock }) (clock + 1) (l ++ [(x, v)]) (upd f x v) := by
  refine ⟨by simp [h.is], fun e he => ?_, ?_, ?_, fun y => ?_⟩
  · rw [Array.toList_push, List.mem_append] at he
    rcases he with he | he
    · have := h.lt e he; omega
    · simp at he; subst he; simp
  · rw [Array.toList_push, List.map_append]
    refine List.nodup_append.mpr ⟨h.nb, by simp, fun a ha b hb => ?_⟩
    obtain ⟨e, he, rfl⟩ := List.mem_map.mp ha
    simp at hb
    have := h.lt e he
    omega
  · rw [List.map_append]
    refine List.nodup_append.mpr ⟨h.nd, by simp, fun a ha b hb => ?_⟩
    obtain ⟨p, hp, rfl⟩ := List.mem_map.mp ha
    simp at hb
    subst hb
    exact hn p hp
  · rw [getL_append hn]
    unfold upd
    rw [h.get]
theorem modify_list (es : Array MapEntry) (j : Nat) (F : MapEntry → MapEntry) {e : MapEntry} (hj : es.toList[j]? = some e) : (es.modify j F).toList = es.toList.set j (F e) := by
  have hlt := (List.getElem?_eq_some_iff.1 hj).1
  have he := (List.getElem?_eq_some_iff.1 hj).2
  rw [Array.toList_modify]
  apply List.ext_getElem
  · simp
  · intro i h1 h2
    rw [List.getElem_modify, List.getElem_set]
    by_cases q : j = i
    · subst q
      simp [he]
    · simp [q]
theorem set_same {α : Type} {l : List α} {j : Nat} {x : α} (h : l[j]? = some x) : l.set j x = l := by
  apply List.ext_getElem?
  intro i
  by_cases q : j = i
  · subst q
    rw [List.getElem?_set_self (List.getElem?_eq_some_iff.1 h).1, h]
  · rw [List.getElem?_set_ne q]
theorem MfE.put {es : Array MapEntry} {clock : Nat} {l : List (κ × ν)} (h : MfE ek ev es clock l f) (K : KeyT P k ek) {j : Nat} {e : MapEntry} {x : κ} (hj : es.toList[j]? = some e) (hk : e.key = ek x) (v : ν) (F : MapEntry → MapEntry) (hF : F e = { e with val := ev v }) :
    MfE ek ev (es.modify j F) clock (l.set j (x, v)) (upd f x v) := by
  obtain ⟨u, h1, h2, h3⟩ := h.at_ K hj hk
  have hl := modify_list es j F hj
  rw [hF] at hl
  have hb : (es.toList.set j { e with val := ev v }).map (·.born) = es.toList.map (·.born) := by
    rw [List.map_set]
    exact set_same (by rw [List.getElem?_map, hj]; rfl)
  refine ⟨?_, fun e' he' => ?_, ?_, ?_, fun y => ?_⟩
  · rw [hl, List.map_set, h.is, List.map_set, hk]
  · have hm : e'.born ∈ (es.toList.set j { e with val := ev v }).map (·.born) := by rw [← hl]; exact List.mem_map.mpr ⟨e', he', rfl⟩
    rw [hb] at hm
    obtain ⟨e2, he2, q⟩ := List.mem_map.mp hm
    rw [← q]
    exact h.lt e2 he2
  · rw [hl, hb]
    exact h.nb
  · rw [List.map_set, set_same (by rw [List.getElem?_map, h1]; rfl)]
    exact h.nd
  · rw [getL_set h.nd h1]
    unfold upd
    rw [h.get]
theorem set_block {o o' : Obj} (h : w.heap[g]? = some o) : ({ w with heap := w.heap.setIfInBounds g o' } : World).heap[g]? = some o' ∧ w.grownBy { w with heap := w.heap.setIfInBounds g o' } (some g) := by
  obtain ⟨h1, h2⟩ := MapKept.heap_set (o' := o') h
  refine ⟨h1, rfl, rfl, rfl, by simp, fun k hk hne => ?_⟩
  exact h2 k (fun e => hne (by rw [e]))
/-- m[k] is read. -/
theorem Mf.lookup {t e : TypeId} {z : Value} (M : Mf ek ev w g f) (K : KeyT P k ek) (ht : P.underlying t = some (.map k e)) (hz : (zeroValue e).run P w = .ok z w) (x : κ) (c : Bool) :
    (Instr.lookup t (.map (some g)) (ek x) c).run P w = .ok (if c then .tuple #[((f x).map ev).getD z, .bool (f x).isSome] else ((f x).map ev).getD z) w := by
  obtain ⟨es, clock, l, hb, hE⟩ := M
  have hg := MapKept.run_getObj_map (P := P) hb
  rcases K.find x es.toList w hE.keys with ⟨h1, h2⟩ | ⟨j, e1, h1, h2, h3⟩
  · rw [(hE.no h2).2]
    simp [Instr.lookup, Sem.run_bind, run_underlying ht, hg, K.check, h1, hz, Result.andThen]
  · obtain ⟨v, q1, q2, q3⟩ := hE.at_ K h2 h3
    rw [q2]
    simp [Instr.lookup, Sem.run_bind, run_underlying ht, hg, K.check, h1, q3, Result.andThen]
/-- m[k] op= .., the first part. -/
theorem Mf.entry {t e : TypeId} {z : ν} (M : Mf ek ev w g f) (K : KeyT P k ek) (ht : P.underlying t = some (.map k e)) (hz : ∀ W, (zeroValue e).run P W = .ok (ev z) W) (x : κ) :
    ∃ w1 s, (Instr.mapEntry t (.map (some g)) (ek x)).run P w = .ok (.tuple #[ev ((f x).getD z), .int .i64 s]) w1 ∧ MfS ek ev w1 g (upd f x ((f x).getD z)) s x ∧ w.grownBy w1 (some g) := by
  obtain ⟨es, clock, l, hb, hE⟩ := M
  have hg := MapKept.run_getObj_map (P := P) hb
  rcases K.find x es.toList w hE.keys with ⟨h1, h2⟩ | ⟨j, e1, h1, h2, h3⟩
  · obtain ⟨q1, q2⟩ := hE.no h2
    obtain ⟨s1, s2⟩ := set_block (w := w) (g := g) (o' := .map (es.push { key := ek x, val := ev z, born := clock }) (clock + 1)) hb
    refine ⟨_, (clock : Int), ?_, ⟨_, _, _, s1, by rw [q2]; exact hE.push q1 z, es.size, { key := ek x, val := ev z, born := clock }, by simp, rfl, rfl⟩, s2⟩
    rw [q2]
    simp [Instr.mapEntry, Sem.run_bind, run_underlying ht, hg, K.check, h1, hz, Result.andThen, MapKept.run_setObj_map _ hb, goInt]
  · obtain ⟨v, q1, q2, q3⟩ := hE.at_ K h2 h3
    have h2' : es[j]? = some e1 := by simpa using h2
    obtain ⟨s1, s2⟩ := set_block (w := w) (g := g) (o' := .map (es.modify j fun e => { e with key := ek x }) clock) hb
    have hp := hE.put K h2 h3 v (fun e => { e with key := ek x }) (by rw [← h3, ← q3])
    refine ⟨_, (e1.born : Int), ?_, ⟨_, _, _, s1, by rw [q2]; exact hp, j, e1, ?_, h3, rfl⟩, s2⟩
    · rw [q2]
      have hst := K.stays x w
      simp [Instr.mapEntry, Sem.run_bind, run_underlying ht, hg, K.check, h1, Result.andThen, MapKept.run_setObj_map _ hb, goInt, h2', h3, hst, q3]
    · rw [modify_list es j _ h2, List.getElem?_set_self (List.getElem?_eq_some_iff.1 h2).1, ← h3]
theorem findIdx_born {es : Array MapEntry} (hn : (es.toList.map (·.born)).Nodup) {j : Nat} {e : MapEntry} (hj : es.toList[j]? = some e) : es.findIdx? (fun x => (x.born : Int) == (e.born : Int)) = some j := by
  have hlt := (List.getElem?_eq_some_iff.1 hj).1
  have he := (List.getElem?_eq_some_iff.1 hj).2
  rw [Array.findIdx?_eq_some_iff_getElem]
  refine ⟨by simpa using hlt, by simp at he; simp [he], fun i hi => ?_⟩
  have h1 : ¬ es.toList[i].born = es.toList[j].born := fun q => by
    have := (List.pairwise_iff_getElem.mp hn) i j (by simp; simp at hlt; omega) (by simpa using hlt) hi
    apply this
    simpa using q
  rw [he] at h1
  simpa using fun q => h1 (by exact_mod_cast q)
/-- .. and its second part. -/
theorem MfS.store {t : TypeId} {s : Int} {x : κ} (M : MfS ek ev w g f s x) (K : KeyT P k ek) (v : ν) :
    ∃ w1, (Instr.entryStore t (.map (some g)) (.int .i64 s) (ev v)).run P w = .ok () w1 ∧ Mf ek ev w1 g (upd f x v) ∧ w.grownBy w1 (some g) := by
  obtain ⟨es, clock, l, hb, hE, j, e, hj, hk, rfl⟩ := M
  have hg := MapKept.run_getObj_map (P := P) hb
  obtain ⟨s1, s2⟩ := set_block (w := w) (g := g) (o' := .map (es.modify j fun e => { e with val := ev v }) clock) hb
  refine ⟨_, ?_, ⟨_, _, _, s1, hE.put K hj hk v _ rfl⟩, s2⟩
  simp [Instr.entryStore, Sem.run_bind, hg, asInt, asIntOf, Result.andThen, findIdx_born hE.nb hj, MapKept.run_setObj_map _ hb]
end
end Go.Proofs.Ytmnjlnkfihklgaa.E
namespace Go.Proofs.Ytmnjlnkfihklgaa.E
open Go.RowKit Go.Proofs.YtmnjlnkfihklgaaW.PrintWords Go.Proofs.YtmnjlnkfihklgaaW.PrintMore
open Go.Proofs.Ytmnjlnkfihklgaa.T
set_option linter.unusedVariables false
set_option linter.unusedSimpArgs false
section
variable {κ ν : Type} [DecidableEq κ] {ek : κ → Value} {ev : ν → Value} {P : Program} {k : TypeId} {w w' : World} {g : Nat}
/-- A map that is asked with a zero for what it does not have. -/
def Mz (ek : κ → Value) (ev : ν → Value) (z : ν) (w : World) (g : Nat) (F : κ → ν) : Prop := ∃ f, Mf ek ev w g f ∧ ∀ x, F x = (f x).getD z
/-- .. and the entry of a key is the one that was made at a time. -/
def MzS (ek : κ → Value) (ev : ν → Value) (z : ν) (w : World) (g : Nat) (F : κ → ν) (s : Int) (x : κ) : Prop := ∃ f, MfS ek ev w g f s x ∧ ∀ x, F x = (f x).getD z
def updZ (F : κ → ν) (x : κ) (v : ν) (y : κ) : ν := if y = x then v else F y
theorem updZ_get {f : κ → Option ν} {F : κ → ν} {z : ν} (h : ∀ x, F x = (f x).getD z) (x : κ) (v : ν) (y : κ) : updZ F x v y = (upd f x v y).getD z := by
  unfold updZ upd
  split
  · rfl
  · exact h y
variable {z : ν} {F : κ → ν}
theorem Mz.heap (h : Mz ek ev z w g F) (e : w'.heap = w.heap) : Mz ek ev z w' g F := by obtain ⟨f, h1, h2⟩ := h; exact ⟨f, h1.heap e, h2⟩
theorem Mz.grown {row : Option Nat} (h : Mz ek ev z w g F) (k : w.grownBy w' row) (hn : some g ≠ row) : Mz ek ev z w' g F := by obtain ⟨f, h1, h2⟩ := h; exact ⟨f, h1.grown k hn, h2⟩
theorem Mz.below (h : Mz ek ev z w g F) (k : Below w.heap.size w w') : Mz ek ev z w' g F := by obtain ⟨f, h1, h2⟩ := h; exact ⟨f, h1.below k, h2⟩
theorem Mz.lt (h : Mz ek ev z w g F) : g < w.heap.size := by obtain ⟨f, h1, h2⟩ := h; exact h1.lt
theorem Mz.congr {F' : κ → ν} (h : Mz ek ev z w g F) (e : ∀ x, F x = F' x) : Mz ek ev z w g F' := by obtain ⟨f, h1, h2⟩ := h; exact ⟨f, h1, fun x => (e x).symm.trans (h2 x)⟩
theorem MzS.mz {s : Int} {x : κ} (h : MzS ek ev z w g F s x) : Mz ek ev z w g F := by
  obtain ⟨f, ⟨es, clock, l, h1, h2, _⟩, h3⟩ := h
  exact ⟨f, ⟨es, clock, l, h1, h2⟩, h3⟩
theorem MzS.heap {s : Int} {x : κ} (h : MzS ek ev z w g F s x) (e : w'.heap = w.heap) : MzS ek ev z w' g F s x := by
  obtain ⟨f, h1, h2⟩ := h
  refine ⟨f, ?_, h2⟩
  unfold MfS at h1 ⊢
  rw [e]
  exact h1
variable {N : Nat} {env : Env} {o : Oper} {Q : Exit → Act → World → Prop} {K : Value → World → Prop}
theorem Runs.lookupF {t e : TypeId} {m y : Operand} {f : κ → Option ν} {c : Bool} {zv v : Value} (ho : o.op = .lookup t m y c) (hm : Ev env m (.map (some g))) (KT : KeyT P k ek) {x : κ} (hx : Ev env y (ek x)) (ht : P.underlying t = some (.map k e)) (hz : ∀ W, (zeroValue e).run P W = .ok zv W) (M : Mf ek ev w g f)
    (hv : (if c then Value.tuple #[((f x).map ev).getD zv, .bool (f x).isSome] else ((f x).map ev).getD zv) = v) : Runs P N env o w v := fun a w' ha hw => by
  have h := (M.heap hw).lookup KT ht (hz w') x c
  rw [hv] at h
  have e1 := ha.eval hm
  have e2 := ha.eval hx
  generalize a.eval = ρ at e1 e2 ⊢
  unfold execOp; rw [ho]; simp only []; rw [e1, e2]
  simp [go_sem, h]
theorem Runs.lookupZ {t e : TypeId} {m y : Operand} (ho : o.op = .lookup t m y false) (hm : Ev env m (.map (some g))) (KT : KeyT P k ek) {x : κ} (hx : Ev env y (ek x)) (ht : P.underlying t = some (.map k e)) (hz : ∀ W, (zeroValue e).run P W = .ok (ev z) W) (M : Mz ek ev z w g F) : Runs P N env o w (ev (F x)) := by
  obtain ⟨f, h1, h2⟩ := M
  refine Runs.lookupF ho hm KT hx ht hz h1 ?_
  rw [h2]
  simp only [Bool.false_eq_true, if_false]
  cases f x <;> rfl
theorem ST.makeMap {t : TypeId} (ek : κ → Value) (ev : ν → Value) (ho : o.op = .makeMap t none) (h : ∀ g w1, g = w.heap.size → Mf ek ev w1 g (fun _ => none) → Below w.heap.size w w1 → K (.map (some g)) w1) : ST P Q N env w o K := by
  refine ST.ev (v := .map (some w.heap.size)) (w1 := w.alloc (.map #[] 0)) (fun a ha => ?_) (h _ _ rfl (Mf.made w) (below_alloc (Below.refl _ _) _))
  unfold execOp; rw [ho]
  rfl
theorem Mf.mz {f : κ → Option ν} (h : Mf ek ev w g f) (z : ν) : Mz ek ev z w g (fun x => (f x).getD z) := ⟨f, h, fun _ => rfl⟩
theorem ST.mapEntry {t e : TypeId} {m y : Operand} (ho : o.op = .mapEntry t m y) (hm : Ev env m (.map (some g))) (KT : KeyT P k ek) (x : κ) (hx : Ev env y (ek x)) (ht : P.underlying t = some (.map k e)) (hz : ∀ W, (zeroValue e).run P W = .ok (ev z) W) (M : Mz ek ev z w g F)
    (h : ∀ w1 s, MzS ek ev z w1 g F s x → w.grownBy w1 (some g) → K (.tuple #[ev (F x), .int .i64 s]) w1) : ST P Q N env w o K := by
  obtain ⟨f, h1, h2⟩ := M
  obtain ⟨w1, s, hr, hM, hg⟩ := h1.entry KT ht hz x
  refine ST.ev (v := .tuple #[ev (F x), .int .i64 s]) (w1 := w1) (fun a ha => ?_) (h w1 s ⟨_, hM, fun y => ?_⟩ hg)
  · have e1 := ha.eval hm
    have e2 := ha.eval hx
    generalize a.eval = ρ at e1 e2 ⊢
    unfold execOp; rw [ho]; simp only []; rw [e1, e2, h2]
    simp [go_sem, hr]
  · rw [h2]
    unfold upd
    by_cases q : y = x
    · subst q; simp
    · rw [if_neg q]
theorem ST.entryStore {t : TypeId} {m s y : Operand} {n : Int} {x : κ} {v : ν} (ho : o.op = .entryStore t m s y) (hm : Ev env m (.map (some g))) (hs : Ev env s (.int .i64 n)) (hy : Ev env y (ev v)) (KT : KeyT P k ek) (M : MzS ek ev z w g F n x)
    (h : ∀ w1, Mz ek ev z w1 g (updZ F x v) → w.grownBy w1 (some g) → K undef w1) : ST P Q N env w o K := by
  obtain ⟨f, h1, h2⟩ := M
  obtain ⟨w1, hr, hM, hg⟩ := h1.store (t := t) KT v
  intro a ha Kc hK
  have e1 := ha.eval hm
  have e2 := ha.eval hs
  have e3 := ha.eval hy
  have : (execOp a.eval o).run P w = .ok .skip w1 := by
    generalize a.eval = ρ at e1 e2 e3 ⊢
    unfold execOp; rw [ho]; simp only []; rw [e1, e2, e3]
    simp [go_sem, hr]
  unfold Oper.wp
  rw [this]
  exact hK _ _ (h w1 ⟨_, hM, updZ_get h2 x v⟩ hg)
end
end Go.Proofs.Ytmnjlnkfihklgaa.E
namespace Go.Proofs.Ytmnjlnkfihklgaa.T
open Go.RowKit Go.Proofs.YtmnjlnkfihklgaaW.PrintWords Go.Proofs.YtmnjlnkfihklgaaW.PrintMore
open Go.Proofs.Ytmnjlnkfihklgaa.P
set_option linter.unusedVariables false
set_option linter.unusedSimpArgs false

/-- A move that is right by itself. -/
def IsMv (qs : List S45) (T : Int) (x : S35) : Prop := inR x.f1 0 (qs.length - 1) ∧ inR x.f0 0 T ∧ 1 ≤ x.f2 ∧ x.f0 + (qs.getD x.f1.toNat P.z45).f3 ≤ T ∧ x.f2 ≤ (qs.getD x.f1.toNat P.z45).f2
instance (qs : List S45) (T : Int) (x : S35) : Decidable (IsMv qs T x) := by unfold IsMv; infer_instance
set_option maxRecDepth 100000 in
set_option maxHeartbeats 8000000 in

theorem isMove_calls (ps : List Int) (qs : List S45) (A B : Option Addr) (c d : Nat) (T : Nat) (x : S35) (r : Bool) (hok : HOk ps qs) (hb : r = true ↔ IsMv qs T x) (w : World) (hQ : Kd.C k45 w B qs.length qs) (hT : T ≤ 60) :
    Calls Try.prog 46 #[hv ps qs A B c d, .int .i64 (T : Int), .agg #[.int .i64 x.f0, .int .i64 x.f1, .int .i64 x.f2]] w fun e w' => e = .returned (.bool r) ∧ Below w.heap.size w w' := by
  have hu3 := Try.underlying3
  have hu23 := Try.underlying23
  have hu25 := Try.underlying25
  have hu35 := Try.underlying35
  have hu45 := Try.underlying45
  obtain ⟨z3, o3⟩ := info_some info3s (by decide)
  obtain ⟨z23, o23⟩ := info_some info23s (by decide)
  obtain ⟨z45, o45⟩ := info_some info45s (by decide)
  have hq12 := hok.q12
  refine E.enter (N := 51) Try.func46 rfl Try.ntmps46 (args := [hv ps qs A B c d, .int .i64 (T : Int), .agg #[.int .i64 x.f0, .int .i64 x.f1, .int .i64 x.f2]]) (by simp) ?_
  have L := Below.refl w.heap.size w
  refine E.CG.seq ?_
  refine E.CG.list ?_
  refine E.GL.st rfl rfl rfl (E.ST.box rfl rfl fun g3 w3 e3 b3 l3 => ?_)
  have h3_L : w.heap.size ≤ g3 := by rw [e3]; exact L.size
  replace L := below_step L l3
  refine E.GL.st rfl rfl rfl (E.ST.box rfl rfl fun g5 w5 e5 b5 l5 => ?_)
  have h5_L : w.heap.size ≤ g5 := by rw [e5]; exact L.size
  have n5_b3 : g3 ≠ g5 := by have := blk_lt b3; omega
  replace b3 := blk_below b3 l5
  replace L := below_step L l5
  refine E.GL.run rfl rfl rfl (E.Runs.assign rfl rfl) ?_
  refine E.GL.done ?_
  refine E.QG.code ?_
  refine E.CG.seq ?_
  refine E.CG.heldH (none) (by kernel_rfl) fun v1 lD hh => ?_
  replace b3 := blk_below b3 lD
  replace b5 := blk_below b5 lD
  replace L := below_step L lD
  clear lD
  have s_b3 := b3
  have s_b5 := b5
  have s_L := L
  refine E.GH.take (i := 0) rfl (by kernel_rfl) (by kernel_rfl) (by kernel_rfl) (by intro c a d v w h; cases d <;> exact h) rfl rfl rfl (fun w' hS => (E.Runs.fieldAddr rfl rfl hu35 rfl (by assumption) rfl)) ?_
  refine E.GH.take (i := 1) rfl (by kernel_rfl) (by kernel_rfl) (by kernel_rfl) (by intro c a d v w h; cases d <;> exact h) rfl rfl rfl (fun w' hS => (E.Runs.load rfl rfl hu3 (by first | exact E.keeps hS (E.blkc (by assumption) rfl) (by first | exact E.nen | exact E.nes (by assumption) | exact E.nes (Ne.symm (by assumption))) | exact pw_cell_below (below_step s_L (E.belowG hS)) (by assumption)))) ?_
  refine E.GH.take (i := 2) rfl (by kernel_rfl) (by kernel_rfl) (by kernel_rfl) (by intro c a d v w h; cases d <;> exact h) rfl rfl rfl (fun w' hS => (E.Runs.fieldAddr rfl rfl hu25 rfl (by assumption) rfl)) ?_
  refine E.GH.take (i := 3) rfl (by kernel_rfl) (by kernel_rfl) (by kernel_rfl) (by intro c a d v w h; cases d <;> exact h) rfl rfl rfl (fun w' hS => (E.Runs.load1 rfl rfl hu23 rfl (by first | exact E.keeps hS (E.blkc (by assumption) rfl) (by first | exact E.nen | exact E.nes (by assumption) | exact E.nes (Ne.symm (by assumption))) | exact pw_cell_below (below_step s_L (E.belowG hS)) (by assumption)))) ?_
  refine E.GH.take (i := 4) rfl (by kernel_rfl) (by kernel_rfl) (by kernel_rfl) (by intro c a d v w h; cases d <;> exact h) rfl rfl rfl (fun w' hS => (E.Runs.len rfl rfl hu23)) ?_
  refine E.GH.take (i := 5) rfl (by kernel_rfl) (by kernel_rfl) (by kernel_rfl) (by intro c a d v w h; cases d <;> exact h) rfl rfl rfl (fun w' hS => (E.Runs.sub rfl rfl rfl (IntWalk.i64_in _ (by omega)))) ?_
  by_cases h13 : inR x.f1 0 (qs.length - 1)
  · obtain ⟨u, hu1⟩ : ∃ u : Nat, (u : Int) = x.f1 := ⟨x.f1.toNat, by unfold inR at h13; omega⟩
    have hul : u < qs.length := by unfold inR at h13; omega
    obtain ⟨q, hq⟩ : ∃ q, q = qs.getD u P.z45 := ⟨_, rfl⟩
    have hqu : qs.getD x.f1.toNat P.z45 = q := by rw [hq, ← hu1, Int.toNat_natCast]
    obtain ⟨aQ, eQ, cQ⟩ := pass_at hQ (show qs[u]? = some q by rw [hq]; exact getD_some hul _)
    obtain ⟨hq1, hq2, hq3, hq4, hq5, hq6, hq7, hq8, hq9⟩ := hok.q q (by rw [hq]; exact getD_mem hul)
    refine E.GH.one (i := 6) (by kernel_rfl) rfl ?_
    refine E.GO.st rfl rfl rfl (E.ST.call rfl ent38 (E.evc rfl (E.evc rfl (E.evc rfl E.evn))) ((within_o x.f1 0 (qs.length - 1) true (iff_of_true rfl h13) _).mono ?_))
    rintro e w13 ⟨rfl, l13⟩
    refine ⟨_, rfl, hh.trans (E.gbB l13), ?_⟩
    replace hh := hh.trans (E.gbB l13)
    replace b3 := blk_below b3 l13
    replace b5 := blk_below b5 l13
    replace L := below_step L l13
    refine E.GH.take (i := 7) rfl (by kernel_rfl) (by kernel_rfl) (by kernel_rfl) (by intro c a d v w h; cases d <;> exact h) rfl rfl rfl (fun w' hS => (E.Runs.move rfl rfl)) ?_
    refine E.GH.take (i := 8) rfl (by kernel_rfl) (by kernel_rfl) (by kernel_rfl) (by intro c a d v w h; cases d <;> exact h) rfl rfl rfl (fun w' hS => (E.Runs.fieldAddr rfl rfl hu35 rfl (by assumption) rfl)) ?_
    refine E.GH.take (i := 9) rfl (by kernel_rfl) (by kernel_rfl) (by kernel_rfl) (by intro c a d v w h; cases d <;> exact h) rfl rfl rfl (fun w' hS => (E.Runs.load rfl rfl hu3 (by first | exact E.keeps hS (E.blkc (by assumption) rfl) (by first | exact E.nen | exact E.nes (by assumption) | exact E.nes (Ne.symm (by assumption))) | exact pw_cell_below (below_step s_L (E.belowG hS)) (by assumption)))) ?_
    refine E.GH.take (i := 10) rfl (by kernel_rfl) (by kernel_rfl) (by kernel_rfl) (by intro c a d v w h; cases d <;> exact h) rfl rfl rfl (fun w' hS => (E.Runs.move rfl rfl)) ?_
    by_cases h18 : inR x.f0 0 T
    · have h18b := h18
      unfold inR at h18b
      refine E.GH.one (i := 11) (by kernel_rfl) rfl ?_
      refine E.GO.st rfl rfl rfl (E.ST.call rfl ent38 (E.evc rfl (E.evc rfl (E.evc rfl E.evn))) ((within_o x.f0 0 T true (iff_of_true rfl h18) _).mono ?_))
      rintro e w18 ⟨rfl, l18⟩
      refine ⟨_, rfl, hh.trans (E.gbB l18), ?_⟩
      replace hh := hh.trans (E.gbB l18)
      replace b3 := blk_below b3 l18
      replace b5 := blk_below b5 l18
      replace L := below_step L l18
      refine E.GH.take (i := 12) rfl (by kernel_rfl) (by kernel_rfl) (by kernel_rfl) (by intro c a d v w h; cases d <;> exact h) rfl rfl rfl (fun w' hS => (E.Runs.pick_t rfl rfl rfl)) ?_
      refine E.GH.take (i := 13) rfl (by kernel_rfl) (by kernel_rfl) (by kernel_rfl) (by intro c a d v w h; cases d <;> exact h) rfl rfl rfl (fun w' hS => (E.Runs.move rfl rfl)) ?_
      refine E.GH.take (i := 14) rfl (by kernel_rfl) (by kernel_rfl) (by kernel_rfl) (by intro c a d v w h; cases d <;> exact h) rfl rfl rfl (fun w' hS => (E.Runs.fieldAddr rfl rfl hu35 rfl (by assumption) rfl)) ?_
      refine E.GH.take (i := 15) rfl (by kernel_rfl) (by kernel_rfl) (by kernel_rfl) (by intro c a d v w h; cases d <;> exact h) rfl rfl rfl (fun w' hS => (E.Runs.load rfl rfl hu3 (by first | exact E.keeps hS (E.blkc (by assumption) rfl) (by first | exact E.nen | exact E.nes (by assumption) | exact E.nes (Ne.symm (by assumption))) | exact pw_cell_below (below_step s_L (E.belowG hS)) (by assumption)))) ?_
      refine E.GH.cmp (i := 16) rfl (by kernel_rfl) (by kernel_rfl) (by kernel_rfl) (by intro c a d v w h; cases d <;> exact h) rfl rfl rfl (fun _ h w' hS => (E.Runs.geq rfl rfl rfl h)) (fun h23 => ?_) (fun h23 => ?_)
      · refine E.GH.take (i := 17) rfl (by kernel_rfl) (by kernel_rfl) (by kernel_rfl) (by intro c a d v w h; cases d <;> exact h) rfl rfl rfl (fun w' hS => (E.Runs.pick_t rfl rfl rfl)) ?_
        refine E.GH.take (i := 18) rfl (by kernel_rfl) (by kernel_rfl) (by kernel_rfl) (by intro c a d v w h; cases d <;> exact h) rfl rfl rfl (fun w' hS => (E.Runs.move rfl rfl)) ?_
        refine E.GH.take (i := 19) rfl (by kernel_rfl) (by kernel_rfl) (by kernel_rfl) (by intro c a d v w h; cases d <;> exact h) rfl rfl rfl (fun w' hS => (E.Runs.fieldAddr rfl rfl hu35 rfl (by assumption) rfl)) ?_
        refine E.GH.take (i := 20) rfl (by kernel_rfl) (by kernel_rfl) (by kernel_rfl) (by intro c a d v w h; cases d <;> exact h) rfl rfl rfl (fun w' hS => (E.Runs.load rfl rfl hu3 (by first | exact E.keeps hS (E.blkc (by assumption) rfl) (by first | exact E.nen | exact E.nes (by assumption) | exact E.nes (Ne.symm (by assumption))) | exact pw_cell_below (below_step s_L (E.belowG hS)) (by assumption)))) ?_
        refine E.GH.take (i := 21) rfl (by kernel_rfl) (by kernel_rfl) (by kernel_rfl) (by intro c a d v w h; cases d <;> exact h) rfl rfl rfl (fun w' hS => (E.Runs.fieldAddr rfl rfl hu25 rfl (by assumption) rfl)) ?_
        refine E.GH.take (i := 22) rfl (by kernel_rfl) (by kernel_rfl) (by kernel_rfl) (by intro c a d v w h; cases d <;> exact h) rfl rfl rfl (fun w' hS => (E.Runs.load1 rfl rfl hu23 rfl (by first | exact E.keeps hS (E.blkc (by assumption) rfl) (by first | exact E.nen | exact E.nes (by assumption) | exact E.nes (Ne.symm (by assumption))) | exact pw_cell_below (below_step s_L (E.belowG hS)) (by assumption)))) ?_
        refine E.GH.take (i := 23) rfl (by kernel_rfl) (by kernel_rfl) (by kernel_rfl) (by intro c a d v w h; cases d <;> exact h) rfl rfl rfl (fun w' hS => (E.Runs.fieldAddr rfl rfl hu35 rfl (by assumption) rfl)) ?_
        refine E.GH.take (i := 24) rfl (by kernel_rfl) (by kernel_rfl) (by kernel_rfl) (by intro c a d v w h; cases d <;> exact h) rfl rfl rfl (fun w' hS => (E.Runs.load rfl rfl hu3 (by first | exact E.keeps hS (E.blkc (by assumption) rfl) (by first | exact E.nen | exact E.nes (by assumption) | exact E.nes (Ne.symm (by assumption))) | exact pw_cell_below (below_step s_L (E.belowG hS)) (by assumption)))) ?_
        refine E.GH.take (i := 25) rfl (by kernel_rfl) (by kernel_rfl) (by kernel_rfl) (by intro c a d v w h; cases d <;> exact h) rfl rfl rfl (fun w' hS => (E.Runs.indexAddrA (i := u) rfl rfl (by rw [hu1]; rfl) hu23 z45 o45 (show (u : Int) < qs.length by omega) eQ rfl)) ?_
        refine E.GH.take (i := 26) rfl (by kernel_rfl) (by kernel_rfl) (by kernel_rfl) (by intro c a d v w h; cases d <;> exact h) rfl rfl rfl (fun w' hS => (E.Runs.fieldAddr rfl rfl hu45 rfl (by assumption) rfl)) ?_
        refine E.GH.take (i := 27) rfl (by kernel_rfl) (by kernel_rfl) (by kernel_rfl) (by intro c a d v w h; cases d <;> exact h) rfl rfl rfl (fun w' hS => (E.Runs.load (v := .int .i64 q.f3) rfl rfl hu3 (by rw [← E.add_onA]; exact pw_cell_below (below_step s_L (E.belowG hS)) (cQ 3 _ rfl)))) ?_
        refine E.GH.take (i := 28) rfl (by kernel_rfl) (by kernel_rfl) (by kernel_rfl) (by intro c a d v w h; cases d <;> exact h) rfl rfl rfl (fun w' hS => (E.Runs.add rfl rfl rfl (IntWalk.i64_in _ (by omega)))) ?_
        refine E.GH.take (i := 29) rfl (by kernel_rfl) (by kernel_rfl) (by kernel_rfl) (by intro c a d v w h; cases d <;> exact h) rfl rfl rfl (fun w' hS => (E.Runs.move rfl rfl)) ?_
        refine E.GH.cmp (i := 30) rfl (by kernel_rfl) (by kernel_rfl) (by kernel_rfl) (by intro c a d v w h; cases d <;> exact h) rfl rfl rfl (fun _ h w' hS => (E.Runs.leq rfl rfl rfl h)) (fun h37 => ?_) (fun h37 => ?_)
        · refine E.GH.take (i := 31) rfl (by kernel_rfl) (by kernel_rfl) (by kernel_rfl) (by intro c a d v w h; cases d <;> exact h) rfl rfl rfl (fun w' hS => (E.Runs.pick_t rfl rfl rfl)) ?_
          refine E.GH.take (i := 32) rfl (by kernel_rfl) (by kernel_rfl) (by kernel_rfl) (by intro c a d v w h; cases d <;> exact h) rfl rfl rfl (fun w' hS => (E.Runs.move rfl rfl)) ?_
          refine E.GH.take (i := 33) rfl (by kernel_rfl) (by kernel_rfl) (by kernel_rfl) (by intro c a d v w h; cases d <;> exact h) rfl rfl rfl (fun w' hS => (E.Runs.fieldAddr rfl rfl hu35 rfl (by assumption) rfl)) ?_
          refine E.GH.take (i := 34) rfl (by kernel_rfl) (by kernel_rfl) (by kernel_rfl) (by intro c a d v w h; cases d <;> exact h) rfl rfl rfl (fun w' hS => (E.Runs.load rfl rfl hu3 (by first | exact E.keeps hS (E.blkc (by assumption) rfl) (by first | exact E.nen | exact E.nes (by assumption) | exact E.nes (Ne.symm (by assumption))) | exact pw_cell_below (below_step s_L (E.belowG hS)) (by assumption)))) ?_
          refine E.GH.take (i := 35) rfl (by kernel_rfl) (by kernel_rfl) (by kernel_rfl) (by intro c a d v w h; cases d <;> exact h) rfl rfl rfl (fun w' hS => (E.Runs.fieldAddr rfl rfl hu25 rfl (by assumption) rfl)) ?_
          refine E.GH.take (i := 36) rfl (by kernel_rfl) (by kernel_rfl) (by kernel_rfl) (by intro c a d v w h; cases d <;> exact h) rfl rfl rfl (fun w' hS => (E.Runs.load1 rfl rfl hu23 rfl (by first | exact E.keeps hS (E.blkc (by assumption) rfl) (by first | exact E.nen | exact E.nes (by assumption) | exact E.nes (Ne.symm (by assumption))) | exact pw_cell_below (below_step s_L (E.belowG hS)) (by assumption)))) ?_
          refine E.GH.take (i := 37) rfl (by kernel_rfl) (by kernel_rfl) (by kernel_rfl) (by intro c a d v w h; cases d <;> exact h) rfl rfl rfl (fun w' hS => (E.Runs.fieldAddr rfl rfl hu35 rfl (by assumption) rfl)) ?_
          refine E.GH.take (i := 38) rfl (by kernel_rfl) (by kernel_rfl) (by kernel_rfl) (by intro c a d v w h; cases d <;> exact h) rfl rfl rfl (fun w' hS => (E.Runs.load rfl rfl hu3 (by first | exact E.keeps hS (E.blkc (by assumption) rfl) (by first | exact E.nen | exact E.nes (by assumption) | exact E.nes (Ne.symm (by assumption))) | exact pw_cell_below (below_step s_L (E.belowG hS)) (by assumption)))) ?_
          refine E.GH.take (i := 39) rfl (by kernel_rfl) (by kernel_rfl) (by kernel_rfl) (by intro c a d v w h; cases d <;> exact h) rfl rfl rfl (fun w' hS => (E.Runs.indexAddrA (i := u) rfl rfl (by rw [hu1]; rfl) hu23 z45 o45 (show (u : Int) < qs.length by omega) eQ rfl)) ?_
          refine E.GH.take (i := 40) rfl (by kernel_rfl) (by kernel_rfl) (by kernel_rfl) (by intro c a d v w h; cases d <;> exact h) rfl rfl rfl (fun w' hS => (E.Runs.fieldAddr rfl rfl hu45 rfl (by assumption) rfl)) ?_
          refine E.GH.take (i := 41) rfl (by kernel_rfl) (by kernel_rfl) (by kernel_rfl) (by intro c a d v w h; cases d <;> exact h) rfl rfl rfl (fun w' hS => (E.Runs.load (v := .int .i64 q.f2) rfl rfl hu3 (by rw [← E.add_onA]; exact pw_cell_below (below_step s_L (E.belowG hS)) (cQ 2 _ rfl)))) ?_
          refine E.GH.cmp (i := 42) rfl (by kernel_rfl) (by kernel_rfl) (by kernel_rfl) (by intro c a d v w h; cases d <;> exact h) rfl rfl rfl (fun _ h w' hS => (E.Runs.leq rfl rfl rfl h)) (fun h49 => ?_) (fun h49 => ?_)
          · refine E.GH.take (i := 43) rfl (by kernel_rfl) (by kernel_rfl) (by kernel_rfl) (by intro c a d v w h; cases d <;> exact h) rfl rfl rfl (fun w' hS => (E.Runs.pick_t rfl rfl rfl)) ?_
            refine E.GH.take (i := 44) rfl (by kernel_rfl) (by kernel_rfl) (by kernel_rfl) (by intro c a d v w h; cases d <;> exact h) rfl rfl rfl (fun w' hS => (E.Runs.assign rfl rfl)) ?_
            refine E.GH.done (by kernel_rfl) ?_
            refine E.QG.code ?_
            refine E.CG.ret ?_
            exact E.QG.result rfl rfl ⟨by rw [hb.mpr ⟨h13, h18, by omega, by rw [hqu]; omega, by rw [hqu]; omega⟩], L⟩
          · refine E.GH.take (i := 43) rfl (by kernel_rfl) (by kernel_rfl) (by kernel_rfl) (by intro c a d v w h; cases d <;> exact h) rfl rfl rfl (fun w' hS => (E.Runs.pick_t rfl rfl rfl)) ?_
            refine E.GH.take (i := 44) rfl (by kernel_rfl) (by kernel_rfl) (by kernel_rfl) (by intro c a d v w h; cases d <;> exact h) rfl rfl rfl (fun w' hS => (E.Runs.assign rfl rfl)) ?_
            refine E.GH.done (by kernel_rfl) ?_
            refine E.QG.code ?_
            refine E.CG.ret ?_
            exact E.QG.result rfl rfl ⟨by rw [bool_no hb (fun k => by obtain ⟨q1, q2, q3, q4, q5⟩ := k; rw [hqu] at q5; omega)], L⟩
        · refine E.GH.take (i := 31) rfl (by kernel_rfl) (by kernel_rfl) (by kernel_rfl) (by intro c a d v w h; cases d <;> exact h) rfl rfl rfl (fun w' hS => (E.Runs.pick_t rfl rfl rfl)) ?_
          refine E.GH.take (i := 32) rfl (by kernel_rfl) (by kernel_rfl) (by kernel_rfl) (by intro c a d v w h; cases d <;> exact h) rfl rfl rfl (fun w' hS => (E.Runs.move rfl rfl)) ?_
          refine E.GH.pass (i := 33) rfl (by kernel_rfl) (by kernel_rfl) (by kernel_rfl) (by intro c a d v w h; cases d <;> exact h) rfl rfl rfl ?_
          refine E.GH.pass (i := 34) rfl (by kernel_rfl) (by kernel_rfl) (by kernel_rfl) (by intro c a d v w h; cases d <;> exact h) rfl rfl rfl ?_
          refine E.GH.pass (i := 35) rfl (by kernel_rfl) (by kernel_rfl) (by kernel_rfl) (by intro c a d v w h; cases d <;> exact h) rfl rfl rfl ?_
          refine E.GH.pass (i := 36) rfl (by kernel_rfl) (by kernel_rfl) (by kernel_rfl) (by intro c a d v w h; cases d <;> exact h) rfl rfl rfl ?_
          refine E.GH.pass (i := 37) rfl (by kernel_rfl) (by kernel_rfl) (by kernel_rfl) (by intro c a d v w h; cases d <;> exact h) rfl rfl rfl ?_
          refine E.GH.pass (i := 38) rfl (by kernel_rfl) (by kernel_rfl) (by kernel_rfl) (by intro c a d v w h; cases d <;> exact h) rfl rfl rfl ?_
          refine E.GH.pass (i := 39) rfl (by kernel_rfl) (by kernel_rfl) (by kernel_rfl) (by intro c a d v w h; cases d <;> exact h) rfl rfl rfl ?_
          refine E.GH.pass (i := 40) rfl (by kernel_rfl) (by kernel_rfl) (by kernel_rfl) (by intro c a d v w h; cases d <;> exact h) rfl rfl rfl ?_
          refine E.GH.pass (i := 41) rfl (by kernel_rfl) (by kernel_rfl) (by kernel_rfl) (by intro c a d v w h; cases d <;> exact h) rfl rfl rfl ?_
          refine E.GH.pass (i := 42) rfl (by kernel_rfl) (by kernel_rfl) (by kernel_rfl) (by intro c a d v w h; cases d <;> exact h) rfl rfl rfl ?_
          refine E.GH.take (i := 43) rfl (by kernel_rfl) (by kernel_rfl) (by kernel_rfl) (by intro c a d v w h; cases d <;> exact h) rfl rfl rfl (fun w' hS => (E.Runs.pick_f rfl rfl rfl)) ?_
          refine E.GH.take (i := 44) rfl (by kernel_rfl) (by kernel_rfl) (by kernel_rfl) (by intro c a d v w h; cases d <;> exact h) rfl rfl rfl (fun w' hS => (E.Runs.assign rfl rfl)) ?_
          refine E.GH.done (by kernel_rfl) ?_
          refine E.QG.code ?_
          refine E.CG.ret ?_
          exact E.QG.result rfl rfl ⟨by rw [bool_no hb (fun k => by obtain ⟨q1, q2, q3, q4, q5⟩ := k; rw [hqu] at q4; omega)], L⟩
      · refine E.GH.take (i := 17) rfl (by kernel_rfl) (by kernel_rfl) (by kernel_rfl) (by intro c a d v w h; cases d <;> exact h) rfl rfl rfl (fun w' hS => (E.Runs.pick_t rfl rfl rfl)) ?_
        refine E.GH.take (i := 18) rfl (by kernel_rfl) (by kernel_rfl) (by kernel_rfl) (by intro c a d v w h; cases d <;> exact h) rfl rfl rfl (fun w' hS => (E.Runs.move rfl rfl)) ?_
        refine E.GH.pass (i := 19) rfl (by kernel_rfl) (by kernel_rfl) (by kernel_rfl) (by intro c a d v w h; cases d <;> exact h) rfl rfl rfl ?_
        refine E.GH.pass (i := 20) rfl (by kernel_rfl) (by kernel_rfl) (by kernel_rfl) (by intro c a d v w h; cases d <;> exact h) rfl rfl rfl ?_
        refine E.GH.pass (i := 21) rfl (by kernel_rfl) (by kernel_rfl) (by kernel_rfl) (by intro c a d v w h; cases d <;> exact h) rfl rfl rfl ?_
        refine E.GH.pass (i := 22) rfl (by kernel_rfl) (by kernel_rfl) (by kernel_rfl) (by intro c a d v w h; cases d <;> exact h) rfl rfl rfl ?_
        refine E.GH.pass (i := 23) rfl (by kernel_rfl) (by kernel_rfl) (by kernel_rfl) (by intro c a d v w h; cases d <;> exact h) rfl rfl rfl ?_
        refine E.GH.pass (i := 24) rfl (by kernel_rfl) (by kernel_rfl) (by kernel_rfl) (by intro c a d v w h; cases d <;> exact h) rfl rfl rfl ?_
        refine E.GH.pass (i := 25) rfl (by kernel_rfl) (by kernel_rfl) (by kernel_rfl) (by intro c a d v w h; cases d <;> exact h) rfl rfl rfl ?_
        refine E.GH.pass (i := 26) rfl (by kernel_rfl) (by kernel_rfl) (by kernel_rfl) (by intro c a d v w h; cases d <;> exact h) rfl rfl rfl ?_
        refine E.GH.pass (i := 27) rfl (by kernel_rfl) (by kernel_rfl) (by kernel_rfl) (by intro c a d v w h; cases d <;> exact h) rfl rfl rfl ?_
        refine E.GH.pass (i := 28) rfl (by kernel_rfl) (by kernel_rfl) (by kernel_rfl) (by intro c a d v w h; cases d <;> exact h) rfl rfl rfl ?_
        refine E.GH.pass (i := 29) rfl (by kernel_rfl) (by kernel_rfl) (by kernel_rfl) (by intro c a d v w h; cases d <;> exact h) rfl rfl rfl ?_
        refine E.GH.pass (i := 30) rfl (by kernel_rfl) (by kernel_rfl) (by kernel_rfl) (by intro c a d v w h; cases d <;> exact h) rfl rfl rfl ?_
        refine E.GH.take (i := 31) rfl (by kernel_rfl) (by kernel_rfl) (by kernel_rfl) (by intro c a d v w h; cases d <;> exact h) rfl rfl rfl (fun w' hS => (E.Runs.pick_f rfl rfl rfl)) ?_
        refine E.GH.take (i := 32) rfl (by kernel_rfl) (by kernel_rfl) (by kernel_rfl) (by intro c a d v w h; cases d <;> exact h) rfl rfl rfl (fun w' hS => (E.Runs.move rfl rfl)) ?_
        refine E.GH.pass (i := 33) rfl (by kernel_rfl) (by kernel_rfl) (by kernel_rfl) (by intro c a d v w h; cases d <;> exact h) rfl rfl rfl ?_
        refine E.GH.pass (i := 34) rfl (by kernel_rfl) (by kernel_rfl) (by kernel_rfl) (by intro c a d v w h; cases d <;> exact h) rfl rfl rfl ?_
        refine E.GH.pass (i := 35) rfl (by kernel_rfl) (by kernel_rfl) (by kernel_rfl) (by intro c a d v w h; cases d <;> exact h) rfl rfl rfl ?_
        refine E.GH.pass (i := 36) rfl (by kernel_rfl) (by kernel_rfl) (by kernel_rfl) (by intro c a d v w h; cases d <;> exact h) rfl rfl rfl ?_
        refine E.GH.pass (i := 37) rfl (by kernel_rfl) (by kernel_rfl) (by kernel_rfl) (by intro c a d v w h; cases d <;> exact h) rfl rfl rfl ?_
        refine E.GH.pass (i := 38) rfl (by kernel_rfl) (by kernel_rfl) (by kernel_rfl) (by intro c a d v w h; cases d <;> exact h) rfl rfl rfl ?_
        refine E.GH.pass (i := 39) rfl (by kernel_rfl) (by kernel_rfl) (by kernel_rfl) (by intro c a d v w h; cases d <;> exact h) rfl rfl rfl ?_
        refine E.GH.pass (i := 40) rfl (by kernel_rfl) (by kernel_rfl) (by kernel_rfl) (by intro c a d v w h; cases d <;> exact h) rfl rfl rfl ?_
        refine E.GH.pass (i := 41) rfl (by kernel_rfl) (by kernel_rfl) (by kernel_rfl) (by intro c a d v w h; cases d <;> exact h) rfl rfl rfl ?_
        refine E.GH.pass (i := 42) rfl (by kernel_rfl) (by kernel_rfl) (by kernel_rfl) (by intro c a d v w h; cases d <;> exact h) rfl rfl rfl ?_
        refine E.GH.take (i := 43) rfl (by kernel_rfl) (by kernel_rfl) (by kernel_rfl) (by intro c a d v w h; cases d <;> exact h) rfl rfl rfl (fun w' hS => (E.Runs.pick_f rfl rfl rfl)) ?_
        refine E.GH.take (i := 44) rfl (by kernel_rfl) (by kernel_rfl) (by kernel_rfl) (by intro c a d v w h; cases d <;> exact h) rfl rfl rfl (fun w' hS => (E.Runs.assign rfl rfl)) ?_
        refine E.GH.done (by kernel_rfl) ?_
        refine E.QG.code ?_
        refine E.CG.ret ?_
        exact E.QG.result rfl rfl ⟨by rw [bool_no hb (fun k => by obtain ⟨q1, q2, q3, q4, q5⟩ := k; omega)], L⟩
    · refine E.GH.one (i := 11) (by kernel_rfl) rfl ?_
      refine E.GO.st rfl rfl rfl (E.ST.call rfl ent38 (E.evc rfl (E.evc rfl (E.evc rfl E.evn))) ((within_o x.f0 0 T false (iff_of_false Bool.false_ne_true h18) _).mono ?_))
      rintro e w18 ⟨rfl, l18⟩
      refine ⟨_, rfl, hh.trans (E.gbB l18), ?_⟩
      replace hh := hh.trans (E.gbB l18)
      replace b3 := blk_below b3 l18
      replace b5 := blk_below b5 l18
      replace L := below_step L l18
      refine E.GH.take (i := 12) rfl (by kernel_rfl) (by kernel_rfl) (by kernel_rfl) (by intro c a d v w h; cases d <;> exact h) rfl rfl rfl (fun w' hS => (E.Runs.pick_t rfl rfl rfl)) ?_
      refine E.GH.take (i := 13) rfl (by kernel_rfl) (by kernel_rfl) (by kernel_rfl) (by intro c a d v w h; cases d <;> exact h) rfl rfl rfl (fun w' hS => (E.Runs.move rfl rfl)) ?_
      refine E.GH.pass (i := 14) rfl (by kernel_rfl) (by kernel_rfl) (by kernel_rfl) (by intro c a d v w h; cases d <;> exact h) rfl rfl rfl ?_
      refine E.GH.pass (i := 15) rfl (by kernel_rfl) (by kernel_rfl) (by kernel_rfl) (by intro c a d v w h; cases d <;> exact h) rfl rfl rfl ?_
      refine E.GH.pass (i := 16) rfl (by kernel_rfl) (by kernel_rfl) (by kernel_rfl) (by intro c a d v w h; cases d <;> exact h) rfl rfl rfl ?_
      refine E.GH.take (i := 17) rfl (by kernel_rfl) (by kernel_rfl) (by kernel_rfl) (by intro c a d v w h; cases d <;> exact h) rfl rfl rfl (fun w' hS => (E.Runs.pick_f rfl rfl rfl)) ?_
      refine E.GH.take (i := 18) rfl (by kernel_rfl) (by kernel_rfl) (by kernel_rfl) (by intro c a d v w h; cases d <;> exact h) rfl rfl rfl (fun w' hS => (E.Runs.move rfl rfl)) ?_
      refine E.GH.pass (i := 19) rfl (by kernel_rfl) (by kernel_rfl) (by kernel_rfl) (by intro c a d v w h; cases d <;> exact h) rfl rfl rfl ?_
      refine E.GH.pass (i := 20) rfl (by kernel_rfl) (by kernel_rfl) (by kernel_rfl) (by intro c a d v w h; cases d <;> exact h) rfl rfl rfl ?_
      refine E.GH.pass (i := 21) rfl (by kernel_rfl) (by kernel_rfl) (by kernel_rfl) (by intro c a d v w h; cases d <;> exact h) rfl rfl rfl ?_
      refine E.GH.pass (i := 22) rfl (by kernel_rfl) (by kernel_rfl) (by kernel_rfl) (by intro c a d v w h; cases d <;> exact h) rfl rfl rfl ?_
      refine E.GH.pass (i := 23) rfl (by kernel_rfl) (by kernel_rfl) (by kernel_rfl) (by intro c a d v w h; cases d <;> exact h) rfl rfl rfl ?_
      refine E.GH.pass (i := 24) rfl (by kernel_rfl) (by kernel_rfl) (by kernel_rfl) (by intro c a d v w h; cases d <;> exact h) rfl rfl rfl ?_
      refine E.GH.pass (i := 25) rfl (by kernel_rfl) (by kernel_rfl) (by kernel_rfl) (by intro c a d v w h; cases d <;> exact h) rfl rfl rfl ?_
      refine E.GH.pass (i := 26) rfl (by kernel_rfl) (by kernel_rfl) (by kernel_rfl) (by intro c a d v w h; cases d <;> exact h) rfl rfl rfl ?_
      refine E.GH.pass (i := 27) rfl (by kernel_rfl) (by kernel_rfl) (by kernel_rfl) (by intro c a d v w h; cases d <;> exact h) rfl rfl rfl ?_
      refine E.GH.pass (i := 28) rfl (by kernel_rfl) (by kernel_rfl) (by kernel_rfl) (by intro c a d v w h; cases d <;> exact h) rfl rfl rfl ?_
      refine E.GH.pass (i := 29) rfl (by kernel_rfl) (by kernel_rfl) (by kernel_rfl) (by intro c a d v w h; cases d <;> exact h) rfl rfl rfl ?_
      refine E.GH.pass (i := 30) rfl (by kernel_rfl) (by kernel_rfl) (by kernel_rfl) (by intro c a d v w h; cases d <;> exact h) rfl rfl rfl ?_
      refine E.GH.take (i := 31) rfl (by kernel_rfl) (by kernel_rfl) (by kernel_rfl) (by intro c a d v w h; cases d <;> exact h) rfl rfl rfl (fun w' hS => (E.Runs.pick_f rfl rfl rfl)) ?_
      refine E.GH.take (i := 32) rfl (by kernel_rfl) (by kernel_rfl) (by kernel_rfl) (by intro c a d v w h; cases d <;> exact h) rfl rfl rfl (fun w' hS => (E.Runs.move rfl rfl)) ?_
      refine E.GH.pass (i := 33) rfl (by kernel_rfl) (by kernel_rfl) (by kernel_rfl) (by intro c a d v w h; cases d <;> exact h) rfl rfl rfl ?_
      refine E.GH.pass (i := 34) rfl (by kernel_rfl) (by kernel_rfl) (by kernel_rfl) (by intro c a d v w h; cases d <;> exact h) rfl rfl rfl ?_
      refine E.GH.pass (i := 35) rfl (by kernel_rfl) (by kernel_rfl) (by kernel_rfl) (by intro c a d v w h; cases d <;> exact h) rfl rfl rfl ?_
      refine E.GH.pass (i := 36) rfl (by kernel_rfl) (by kernel_rfl) (by kernel_rfl) (by intro c a d v w h; cases d <;> exact h) rfl rfl rfl ?_
      refine E.GH.pass (i := 37) rfl (by kernel_rfl) (by kernel_rfl) (by kernel_rfl) (by intro c a d v w h; cases d <;> exact h) rfl rfl rfl ?_
      refine E.GH.pass (i := 38) rfl (by kernel_rfl) (by kernel_rfl) (by kernel_rfl) (by intro c a d v w h; cases d <;> exact h) rfl rfl rfl ?_
      refine E.GH.pass (i := 39) rfl (by kernel_rfl) (by kernel_rfl) (by kernel_rfl) (by intro c a d v w h; cases d <;> exact h) rfl rfl rfl ?_
      refine E.GH.pass (i := 40) rfl (by kernel_rfl) (by kernel_rfl) (by kernel_rfl) (by intro c a d v w h; cases d <;> exact h) rfl rfl rfl ?_
      refine E.GH.pass (i := 41) rfl (by kernel_rfl) (by kernel_rfl) (by kernel_rfl) (by intro c a d v w h; cases d <;> exact h) rfl rfl rfl ?_
      refine E.GH.pass (i := 42) rfl (by kernel_rfl) (by kernel_rfl) (by kernel_rfl) (by intro c a d v w h; cases d <;> exact h) rfl rfl rfl ?_
      refine E.GH.take (i := 43) rfl (by kernel_rfl) (by kernel_rfl) (by kernel_rfl) (by intro c a d v w h; cases d <;> exact h) rfl rfl rfl (fun w' hS => (E.Runs.pick_f rfl rfl rfl)) ?_
      refine E.GH.take (i := 44) rfl (by kernel_rfl) (by kernel_rfl) (by kernel_rfl) (by intro c a d v w h; cases d <;> exact h) rfl rfl rfl (fun w' hS => (E.Runs.assign rfl rfl)) ?_
      refine E.GH.done (by kernel_rfl) ?_
      refine E.QG.code ?_
      refine E.CG.ret ?_
      exact E.QG.result rfl rfl ⟨by rw [bool_no hb (fun k => by obtain ⟨q1, q2, q3, q4, q5⟩ := k; exact h18 q2)], L⟩
  · refine E.GH.one (i := 6) (by kernel_rfl) rfl ?_
    refine E.GO.st rfl rfl rfl (E.ST.call rfl ent38 (E.evc rfl (E.evc rfl (E.evc rfl E.evn))) ((within_o x.f1 0 (qs.length - 1) false (iff_of_false Bool.false_ne_true h13) _).mono ?_))
    rintro e w13 ⟨rfl, l13⟩
    refine ⟨_, rfl, hh.trans (E.gbB l13), ?_⟩
    replace hh := hh.trans (E.gbB l13)
    replace b3 := blk_below b3 l13
    replace b5 := blk_below b5 l13
    replace L := below_step L l13
    refine E.GH.take (i := 7) rfl (by kernel_rfl) (by kernel_rfl) (by kernel_rfl) (by intro c a d v w h; cases d <;> exact h) rfl rfl rfl (fun w' hS => (E.Runs.move rfl rfl)) ?_
    refine E.GH.pass (i := 8) rfl (by kernel_rfl) (by kernel_rfl) (by kernel_rfl) (by intro c a d v w h; cases d <;> exact h) rfl rfl rfl ?_
    refine E.GH.pass (i := 9) rfl (by kernel_rfl) (by kernel_rfl) (by kernel_rfl) (by intro c a d v w h; cases d <;> exact h) rfl rfl rfl ?_
    refine E.GH.pass (i := 10) rfl (by kernel_rfl) (by kernel_rfl) (by kernel_rfl) (by intro c a d v w h; cases d <;> exact h) rfl rfl rfl ?_
    refine E.GH.pass (i := 11) rfl (by kernel_rfl) (by kernel_rfl) (by kernel_rfl) (by intro c a d v w h; cases d <;> exact h) rfl rfl rfl ?_
    refine E.GH.take (i := 12) rfl (by kernel_rfl) (by kernel_rfl) (by kernel_rfl) (by intro c a d v w h; cases d <;> exact h) rfl rfl rfl (fun w' hS => (E.Runs.pick_f rfl rfl rfl)) ?_
    refine E.GH.take (i := 13) rfl (by kernel_rfl) (by kernel_rfl) (by kernel_rfl) (by intro c a d v w h; cases d <;> exact h) rfl rfl rfl (fun w' hS => (E.Runs.move rfl rfl)) ?_
    refine E.GH.pass (i := 14) rfl (by kernel_rfl) (by kernel_rfl) (by kernel_rfl) (by intro c a d v w h; cases d <;> exact h) rfl rfl rfl ?_
    refine E.GH.pass (i := 15) rfl (by kernel_rfl) (by kernel_rfl) (by kernel_rfl) (by intro c a d v w h; cases d <;> exact h) rfl rfl rfl ?_
    refine E.GH.pass (i := 16) rfl (by kernel_rfl) (by kernel_rfl) (by kernel_rfl) (by intro c a d v w h; cases d <;> exact h) rfl rfl rfl ?_
    refine E.GH.take (i := 17) rfl (by kernel_rfl) (by kernel_rfl) (by kernel_rfl) (by intro c a d v w h; cases d <;> exact h) rfl rfl rfl (fun w' hS => (E.Runs.pick_f rfl rfl rfl)) ?_
    refine E.GH.take (i := 18) rfl (by kernel_rfl) (by kernel_rfl) (by kernel_rfl) (by intro c a d v w h; cases d <;> exact h) rfl rfl rfl (fun w' hS => (E.Runs.move rfl rfl)) ?_
    refine E.GH.pass (i := 19) rfl (by kernel_rfl) (by kernel_rfl) (by kernel_rfl) (by intro c a d v w h; cases d <;> exact h) rfl rfl rfl ?_
    refine E.GH.pass (i := 20) rfl (by kernel_rfl) (by kernel_rfl) (by kernel_rfl) (by intro c a d v w h; cases d <;> exact h) rfl rfl rfl ?_
    refine E.GH.pass (i := 21) rfl (by kernel_rfl) (by kernel_rfl) (by kernel_rfl) (by intro c a d v w h; cases d <;> exact h) rfl rfl rfl ?_
    refine E.GH.pass (i := 22) rfl (by kernel_rfl) (by kernel_rfl) (by kernel_rfl) (by intro c a d v w h; cases d <;> exact h) rfl rfl rfl ?_
    refine E.GH.pass (i := 23) rfl (by kernel_rfl) (by kernel_rfl) (by kernel_rfl) (by intro c a d v w h; cases d <;> exact h) rfl rfl rfl ?_
    refine E.GH.pass (i := 24) rfl (by kernel_rfl) (by kernel_rfl) (by kernel_rfl) (by intro c a d v w h; cases d <;> exact h) rfl rfl rfl ?_
    refine E.GH.pass (i := 25) rfl (by kernel_rfl) (by kernel_rfl) (by kernel_rfl) (by intro c a d v w h; cases d <;> exact h) rfl rfl rfl ?_
    refine E.GH.pass (i := 26) rfl (by kernel_rfl) (by kernel_rfl) (by kernel_rfl) (by intro c a d v w h; cases d <;> exact h) rfl rfl rfl ?_
    refine E.GH.pass (i := 27) rfl (by kernel_rfl) (by kernel_rfl) (by kernel_rfl) (by intro c a d v w h; cases d <;> exact h) rfl rfl rfl ?_
    refine E.GH.pass (i := 28) rfl (by kernel_rfl) (by kernel_rfl) (by kernel_rfl) (by intro c a d v w h; cases d <;> exact h) rfl rfl rfl ?_
    refine E.GH.pass (i := 29) rfl (by kernel_rfl) (by kernel_rfl) (by kernel_rfl) (by intro c a d v w h; cases d <;> exact h) rfl rfl rfl ?_
    refine E.GH.pass (i := 30) rfl (by kernel_rfl) (by kernel_rfl) (by kernel_rfl) (by intro c a d v w h; cases d <;> exact h) rfl rfl rfl ?_
    refine E.GH.take (i := 31) rfl (by kernel_rfl) (by kernel_rfl) (by kernel_rfl) (by intro c a d v w h; cases d <;> exact h) rfl rfl rfl (fun w' hS => (E.Runs.pick_f rfl rfl rfl)) ?_
    refine E.GH.take (i := 32) rfl (by kernel_rfl) (by kernel_rfl) (by kernel_rfl) (by intro c a d v w h; cases d <;> exact h) rfl rfl rfl (fun w' hS => (E.Runs.move rfl rfl)) ?_
    refine E.GH.pass (i := 33) rfl (by kernel_rfl) (by kernel_rfl) (by kernel_rfl) (by intro c a d v w h; cases d <;> exact h) rfl rfl rfl ?_
    refine E.GH.pass (i := 34) rfl (by kernel_rfl) (by kernel_rfl) (by kernel_rfl) (by intro c a d v w h; cases d <;> exact h) rfl rfl rfl ?_
    refine E.GH.pass (i := 35) rfl (by kernel_rfl) (by kernel_rfl) (by kernel_rfl) (by intro c a d v w h; cases d <;> exact h) rfl rfl rfl ?_
    refine E.GH.pass (i := 36) rfl (by kernel_rfl) (by kernel_rfl) (by kernel_rfl) (by intro c a d v w h; cases d <;> exact h) rfl rfl rfl ?_
    refine E.GH.pass (i := 37) rfl (by kernel_rfl) (by kernel_rfl) (by kernel_rfl) (by intro c a d v w h; cases d <;> exact h) rfl rfl rfl ?_
    refine E.GH.pass (i := 38) rfl (by kernel_rfl) (by kernel_rfl) (by kernel_rfl) (by intro c a d v w h; cases d <;> exact h) rfl rfl rfl ?_
    refine E.GH.pass (i := 39) rfl (by kernel_rfl) (by kernel_rfl) (by kernel_rfl) (by intro c a d v w h; cases d <;> exact h) rfl rfl rfl ?_
    refine E.GH.pass (i := 40) rfl (by kernel_rfl) (by kernel_rfl) (by kernel_rfl) (by intro c a d v w h; cases d <;> exact h) rfl rfl rfl ?_
    refine E.GH.pass (i := 41) rfl (by kernel_rfl) (by kernel_rfl) (by kernel_rfl) (by intro c a d v w h; cases d <;> exact h) rfl rfl rfl ?_
    refine E.GH.pass (i := 42) rfl (by kernel_rfl) (by kernel_rfl) (by kernel_rfl) (by intro c a d v w h; cases d <;> exact h) rfl rfl rfl ?_
    refine E.GH.take (i := 43) rfl (by kernel_rfl) (by kernel_rfl) (by kernel_rfl) (by intro c a d v w h; cases d <;> exact h) rfl rfl rfl (fun w' hS => (E.Runs.pick_f rfl rfl rfl)) ?_
    refine E.GH.take (i := 44) rfl (by kernel_rfl) (by kernel_rfl) (by kernel_rfl) (by intro c a d v w h; cases d <;> exact h) rfl rfl rfl (fun w' hS => (E.Runs.assign rfl rfl)) ?_
    refine E.GH.done (by kernel_rfl) ?_
    refine E.QG.code ?_
    refine E.CG.ret ?_
    exact E.QG.result rfl rfl ⟨by rw [bool_no hb (fun k => by obtain ⟨q1, q2, q3, q4, q5⟩ := k; exact h13 q1)], L⟩

end Go.Proofs.Ytmnjlnkfihklgaa.T
namespace Go.Proofs.Ytmnjlnkfihklgaa.T
open Go.RowKit Go.Proofs.YtmnjlnkfihklgaaW.PrintWords Go.Proofs.YtmnjlnkfihklgaaW.PrintMore
open Go.Proofs.Ytmnjlnkfihklgaa.P
set_option linter.unusedVariables false
set_option linter.unusedSimpArgs false
/-! ### The key of a use -/
def ek72 (x : S72) : Value := .agg #[.int .i64 x.f0, .int .i64 x.f1]
abbrev evI (n : Int) : Value := .int .i64 n
instance : DecidableEq S72 := fun x y => decidable_of_iff (x.f0 = y.f0 ∧ x.f1 = y.f1) (by
  obtain ⟨a, b⟩ := x
  obtain ⟨c, d⟩ := y
  simp)
theorem ek72_inj {x y : S72} (h : ek72 x = ek72 y) : x = y := by
  unfold ek72 at h
  obtain ⟨a, b⟩ := x
  obtain ⟨c, d⟩ := y
  simp at h
  rw [h.1, h.2]
set_option maxRecDepth 100000 in
set_option maxHeartbeats 4000000 in
theorem ek72_equal (x y : S72) (W : World) : (Op.equal 72 (ek72 x) (ek72 y)).run Try.prog W = .ok (decide (x = y)) W := by
  have hu72 := Try.underlying72
  have hu3 := Try.underlying3
  have e : decide (x = y) = (decide (x.f0 = y.f0) && decide (x.f1 = y.f1)) := by
    obtain ⟨a, b⟩ := x
    obtain ⟨c, d⟩ := y
    simp
  rw [e]
  show (Op.equalIn (9999 + 1) 72 _ _).run Try.prog W = _
  refine eqA_of hu72 (by kernel_rfl) ?_
  refine eqf_cons (a := .int .i64 x.f0) (b := .int .i64 y.f0) (r := decide (x.f0 = y.f0)) (by rfl) (by go_simp) (by go_simp) ?_ ?_
  · exact run_equalIn_int W 9998 3 .i64 .i64 x.f0 y.f0 hu3
  · refine eqf_last (a := .int .i64 x.f1) (b := .int .i64 y.f1) (r := decide (x.f1 = y.f1)) (by rfl) (by go_simp) (by go_simp) ?_
    exact run_equalIn_int W 9998 3 .i64 .i64 x.f1 y.f1 hu3
set_option maxRecDepth 100000 in
set_option maxHeartbeats 4000000 in
theorem ek72_check (em : Bool) (x : S72) (W : World) : (Instr.checkKey em 10000 72 (ek72 x)).run Try.prog W = .ok () W := by
  have hu72 := Try.underlying72
  have hu3 := Try.underlying3
  show (Instr.checkKey em (9999 + 1) 72 (.agg #[.int .i64 x.f0, .int .i64 x.f1])).run Try.prog W = _
  rw [Instr.checkKey]
  simp only [Sem.run_bind, run_underlying hu72, Result.andThen]
  go_simp
  have h9 : ∀ (v : Int) (W : World), (Instr.checkKey em 9999 3 (.int .i64 v)).run Try.prog W = .ok () W := fun v W => MapKept.run_checkKey hu3 (by simp [MapKept.IsKey]) em 9998
  simp [h9, Result.andThen]
theorem k72T : E.KeyT Try.prog 72 ek72 := E.KeyT.of_equal Try.underlying72 ek72_inj ek72_equal (fun x v => rfl) ek72_check (fun x => by simp [ek72, Instr.sameBits])
/-! ### The changes -/
def chF (qs : List S45) (r m : Int) (x : S35) : Int := (if (qs.getD x.f1.toNat P.z45).f1 = r ∧ x.f0 + (qs.getD x.f1.toNat P.z45).f3 = m then x.f2 else 0) - (if (qs.getD x.f1.toNat P.z45).f0 = r ∧ x.f0 = m then x.f2 else 0)
def chM (qs : List S45) (l : List S35) (m r : Nat) : Int := sumM (chF qs r m) l
def matR (F : Nat → Nat → Int) (R m : Nat) : List Int := (List.range R).map (F m)
def mat (F : Nat → Nat → Int) (T R : Nat) : List (List Int) := (List.range (T + 1)).map (matR F R)
def setF (F : Nat → Nat → Int) (m0 r0 : Nat) (y : Int) (m r : Nat) : Int := if m = m0 ∧ r = r0 then y else F m r
theorem matR_len (F : Nat → Nat → Int) (R m : Nat) : (matR F R m).length = R := by simp [matR]
theorem mat_len (F : Nat → Nat → Int) (T R : Nat) : (mat F T R).length = T + 1 := by simp [mat]
theorem mat_row (F : Nat → Nat → Int) {T R m : Nat} (h : m ≤ T) : (mat F T R)[m]? = some (matR F R m) := by
  unfold mat
  rw [List.getElem?_map, List.getElem?_range (by omega)]
  rfl
theorem matR_get (F : Nat → Nat → Int) {R m r : Nat} (h : r < R) : (matR F R m)[r]? = some (F m r) := by
  unfold matR
  rw [List.getElem?_map, List.getElem?_range h]
  rfl
theorem matR_congr {F G : Nat → Nat → Int} {R m : Nat} (h : ∀ r, r < R → F m r = G m r) : matR F R m = matR G R m := by
  unfold matR
  exact List.map_congr_left fun r hr => h r (List.mem_range.mp hr)
theorem mat_congr {F G : Nat → Nat → Int} {T R : Nat} (h : ∀ m r, m ≤ T → r < R → F m r = G m r) : mat F T R = mat G T R := by
  unfold mat
  exact List.map_congr_left fun m hm => matR_congr fun r hr => h m r (by have := List.mem_range.mp hm; omega) hr
theorem mat_set (F : Nat → Nat → Int) {T R m r : Nat} (hm : m ≤ T) (hr : r < R) (y : Int) : (mat F T R).set m ((matR F R m).set r y) = mat (setF F m r y) T R := by
  apply List.ext_getElem?
  intro i
  by_cases hi : i ≤ T
  · rw [mat_row _ hi]
    by_cases e : m = i
    · subst e
      rw [List.getElem?_set_self (by rw [mat_len]; omega)]
      congr 1
      apply List.ext_getElem?
      intro j
      by_cases hj : j < R
      · rw [matR_get _ hj]
        by_cases e2 : r = j
        · subst e2
          rw [List.getElem?_set_self (by rw [matR_len]; omega)]
          unfold setF
          rw [if_pos ⟨rfl, rfl⟩]
        · rw [List.getElem?_set_ne e2, matR_get _ hj]
          unfold setF
          rw [if_neg (fun z => e2 z.2.symm)]
      · rw [List.getElem?_eq_none (by rw [List.length_set, matR_len]; omega), List.getElem?_eq_none (by rw [matR_len]; omega)]
    · rw [List.getElem?_set_ne e, mat_row _ hi]
      congr 1
      refine matR_congr fun j hj => ?_
      unfold setF
      rw [if_neg (fun z => e z.1.symm)]
  · rw [List.getElem?_eq_none (by rw [List.length_set, mat_len]; omega), List.getElem?_eq_none (by rw [mat_len]; omega)]
theorem rowI_at {W : World} {base : Nat} {A : Option Addr} {n c : Nat} {xs : List Int} {i : Nat} {x : Int} (R : Kd.R kI 3 W base (fun _ => True) (.slice A n c) xs) (hi : xs[i]? = some x) :
    ∃ g, A = some ⟨g, 0, none⟩ ∧ base ≤ g ∧ W.cell? ⟨g, i * 1, none⟩ = some (.int .i64 x) ∧ W.frozen? ⟨g, i * 1, none⟩ = false ∧ (∃ cells, W.heap[g]? = some (.cells cells 3 (0, 0))) ∧
      (∀ y : Int, ∃ w', w' = W.setCell ⟨g, i * 1, none⟩ (.int .i64 y) ∧ Kd.R kI 3 w' base (fun _ => True) (.slice A n c) (xs.set i y) ∧ W.grownBy w' (some g)) := by
  have hil := (List.getElem?_eq_some_iff.1 hi).1
  obtain ⟨g, cap, hv, hb, hl, cells, hc⟩ := Kd.R_form R (by omega)
  have hn := (Kd.R_reads' R).1
  injection hv with hA hn' hc'
  subst hA hc'
  obtain ⟨cs, h1, h2, h3, h4⟩ := Kd.R_elem R 0 (i : Int) (by omega) (by omega)
  have hx : xs.getD i 0 = x := by simp [List.getD_eq_getElem?_getD, hi]
  rw [Int.toNat_natCast, hx] at h2
  obtain rfl : cs = [.int .i64 x] := h2
  rw [Int.toNat_natCast] at h3 h4
  refine ⟨g, rfl, hb, h3 0 _ rfl, h4 0, ⟨cells, hc⟩, fun y => ⟨_, rfl, ?_⟩⟩
  have := Kd.R_seg R (i : Int) (by omega) (by omega) (seg := [.int .i64 y]) (j := 0) h1 (by rw [Int.toNat_natCast]; exact h3) (by show 0 + 1 ≤ 1; decide) (x' := y) (okp := fun _ => False) (show kI.M _ _ _ y ([.int .i64 y] : List Value) from rfl) (fun _ hk => hk.elim)
  rw [Int.toNat_natCast] at this
  exact this
/-- Where Gone stands in memory. -/
structure Gs (w0 w : World) (g3 gO gM : Nat) (hs : List Value) (xss : List (List Int)) (vs : List Value) (Us : S72 → Int) : Prop where
  b3 : w.heap[g3]? = some (.cells hs.toArray 25 (0, 0))
  rows : Rows kI 3 22 w w0.heap.size gO xss vs
  mp : E.Mz ek72 evI 0 w gM Us
  hM : w0.heap.size ≤ gM
  bel : Below w0.heap.size w0 w
  size : w0.heap.size ≤ w.heap.size
section
variable {w0 w w' : World} {g3 gO gM : Nat} {hs : List Value} {xss : List (List Int)} {vs : List Value} {Us : S72 → Int}
theorem Gs.below (h : Gs w0 w g3 gO gM hs xss vs Us) (l : Below w.heap.size w w') : Gs w0 w' g3 gO gM hs xss vs Us :=
  ⟨blk_below h.b3 l, h.rows.below l, h.mp.below l, h.hM, below_step' h.bel h.size l, Nat.le_trans h.size l.size⟩
theorem Gs.grown {g : Nat} (h : Gs w0 w g3 gO gM hs xss vs Us) (hg : w.grownBy w' (some g)) (k : (∃ (t : Nat) (cs : Array Value), w.heap[g]? = some (.cells cs t (0, 0)) ∧ 3 ≠ t ∧ 22 ≠ t ∧ 25 ≠ t) ∧ w0.heap.size ≤ g) : Gs w0 w' g3 gO gM hs xss vs Us := by
  obtain ⟨⟨t, cs, hb, h1, h2, h3⟩, hl⟩ := k
  refine ⟨blk_grown h.b3 hg (E.nes (blk_ne h.b3 hb h3)), h.rows.other rfl hb h1 h2 hg, h.mp.grown hg (E.nes ?_), h.hM, h.bel.grown hg h.size (fun z ez => by cases ez; exact hl), Nat.le_trans h.size hg.size⟩
  rintro rfl
  obtain ⟨f, ⟨es, clock, l, q, _⟩, _⟩ := h.mp
  rw [hb] at q
  cases q
theorem map_ne {gM g t : Nat} {cs : Array Value} (h : E.Mz ek72 evI 0 w gM Us) (hb : w.heap[g]? = some (.cells cs t (0, 0))) : g ≠ gM := by
  rintro rfl
  obtain ⟨f, ⟨es, clock, l, q, _⟩, _⟩ := h
  rw [hb] at q
  cases q
/-- The map is written. -/
theorem Gs.mapped {Us' : S72 → Int} (h : Gs w0 w g3 gO gM hs xss vs Us) (hg : w.grownBy w' (some gM)) (hm : E.Mz ek72 evI 0 w' gM Us') : Gs w0 w' g3 gO gM hs xss vs Us' := by
  refine ⟨blk_grown h.b3 hg (E.nes (map_ne h.mp h.b3)), ⟨h.rows.len, h.rows.hb, blk_grown h.rows.blk hg (E.nes (map_ne h.mp h.rows.blk)), fun i v xs a b => ?_, h.rows.apart⟩, hm, h.hM, h.bel.grown hg h.size (fun z ez => by cases ez; exact h.hM), Nat.le_trans h.size hg.size⟩
  have R := h.rows.row i v xs a b
  refine Kd.R_mono (Kd.R_grown (Kd.R_tight rfl R) hg (fun k hk ek => ?_)) (fun _ _ => trivial)
  obtain ⟨_, inner, ho, _⟩ := R
  obtain ⟨cells, hc⟩ := own_typed ho k hk.symm
  injection ek with ek
  exact map_ne h.mp hc ek
/-- A row that was not there is made and stored. -/
theorem Gs.made {i : Nat} {v1 : Value} {ys : List Int} (h : Gs w0 w g3 gO gM hs xss vs Us) (hi : xss[i]? = some []) (l : Below w.heap.size w w') (r : Kd.R kI 3 w' w0.heap.size (fun _ => True) v1 ys) (hv1 : vs[i]? = some (.slice none 0 0)) (ho : ∃ b, v1.ownBlock = some b ∧ w.heap.size ≤ b) :
    w'.cell? ⟨gO, i * 1, none⟩ = some (.slice none 0 0) ∧ w'.frozen? ⟨gO, i * 1, none⟩ = false ∧ Gs w0 (w'.setCell ⟨gO, i * 1, none⟩ v1) g3 gO gM hs (xss.set i ys) (vs.set i v1) Us := by
  obtain ⟨a1, a2, a3, a4, a5⟩ := h.rows.appended (w' := w') rfl (by decide) hv1 hi (E.gbB l) r (.inr ho)
  have h' := h.below l
  refine ⟨a1, a2, blk_grown h'.b3 a4 (E.nes (blk_ne h'.b3 a5 (by decide))), a3, h'.mp.grown a4 (E.nes (fun e => map_ne h'.mp a5 e.symm)), h.hM, h'.bel.grown a4 h'.size (fun z ez => by cases ez; exact h.rows.hb), Nat.le_trans h'.size a4.size⟩
theorem Gs.entry {T R m r : Nat} {F : Nat → Nat → Int} (h : Gs w0 w g3 gO gM hs (mat F T R) vs Us) (hm : m ≤ T) (hr : r < R) :
    ∃ A c g, w.cell? ⟨gO, m * 1, none⟩ = some (.slice A R c) ∧ A = some ⟨g, 0, none⟩ ∧ w.cell? ⟨g, r * 1, none⟩ = some (.int .i64 (F m r)) ∧ w.frozen? ⟨g, r * 1, none⟩ = false ∧
      (∀ y : Int, ∃ w', w' = w.setCell ⟨g, r * 1, none⟩ (.int .i64 y) ∧ Gs w0 w' g3 gO gM hs (mat (setF F m r y) T R) vs Us ∧ CalmT 3 22 w w') := by
  obtain ⟨A, c, hv, R1⟩ := h.rows.at_ (mat_row F hm)
  rw [matR_len] at hv
  have R2 := R1
  rw [matR_len] at R2
  obtain ⟨g, eA, hg, c1, fr, ⟨cells, hc⟩, st⟩ := rowI_at R2 (matR_get F hr)
  refine ⟨A, c, g, h.rows.cell hv, eA, c1, fr, fun y => ?_⟩
  obtain ⟨w', hw', R', g'⟩ := st y
  have ho : (Value.slice A R c).ownBlock = some g := by rw [eA]; rfl
  refine ⟨w', hw', ⟨blk_grown h.b3 g' (E.nes (blk_ne h.b3 hc (by decide))), ?_, h.mp.grown g' (E.nes (fun e => map_ne h.mp hc e.symm)), h.hM, h.bel.grown g' h.size (fun z ez => by cases ez; exact hg), Nat.le_trans h.size g'.size⟩, CalmT.blk hc (.inl rfl) g'⟩
  rw [← mat_set F hm hr]
  exact h.rows.written rfl (by decide) hv (mat_row F hm) (by rw [ho]; exact g') R'
end
end Go.Proofs.Ytmnjlnkfihklgaa.T
namespace Go.Proofs.Ytmnjlnkfihklgaa.T
open Go.RowKit Go.Proofs.YtmnjlnkfihklgaaW.PrintWords Go.Proofs.YtmnjlnkfihklgaaW.PrintMore
open Go.Proofs.Ytmnjlnkfihklgaa.P
set_option linter.unusedVariables false
set_option linter.unusedSimpArgs false

theorem sumM_congr' {a b : S35 → Int} : ∀ {l : List S35}, (∀ x ∈ l, a x = b x) → sumM a l = sumM b l
  | [], _ => rfl
  | x :: l, h => by simp only [sumM, h x List.mem_cons_self, sumM_congr' (fun y hy => h y (List.mem_cons_of_mem _ hy))]

theorem info22 : (Try.prog.info? 22).map (fun i => (i.zero, i.size, i.bytes)) = some (some (.slice none 0 0), 1, 24) := by kernel_rfl
theorem zero3I (W : World) : (zeroValue 3).run Try.prog W = .ok (evI 0) W := by
  cases hq : Try.prog.info? 3 with
  | none => have := info3z; simp [hq] at this
  | some i =>
    have hi : i.zero = some (.int .i64 0) := by have := info3z; simpa [hq] using this
    simp [go_sem, zeroValue, typeInfo, hq, hi]
theorem lookU {N : Nat} {env : E.Env} {o : Oper} {w : World} {m y : Operand} {g : Nat} {Us : S72 → Int} {a b v : Int} (ho : o.op = .lookup 69 m y false) (hm : E.Ev env m (.map (some g))) (hy : E.Ev env y (.agg #[.int .i64 a, .int .i64 b])) (M : E.Mz ek72 evI 0 w g Us) (hv : Us ⟨a, b⟩ = v) : E.Runs Try.prog N env o w (.int .i64 v) := by
  subst hv
  exact E.Runs.lookupZ ho hm k72T (x := ⟨a, b⟩) hy Try.underlying69 zero3I M
/-- What Gone returns. -/
def GoneR (ps : List Int) (qs : List S45) (m : Int) (l : List S35) (N E : Int) : Prop := (¬ chkE ps qs m = 0 → N = 0 ∧ E = chkE ps qs m) ∧ (chkE ps qs m = 0 → (IsPl ps qs m.toNat l → N = outM qs l ∧ E = 0) ∧ (¬ IsPl ps qs m.toNat l → N = 0 ∧ E = 111))
/-! ### The rows are made -/
structure Gz (w0 w : World) (g3 gO : Nat) (hs : List Value) (xss : List (List Int)) (vs : List Value) : Prop where
  b3 : w.heap[g3]? = some (.cells hs.toArray 25 (0, 0))
  rows : Rows kI 3 22 w w0.heap.size gO xss vs
  bel : Below w0.heap.size w0 w
  size : w0.heap.size ≤ w.heap.size
section
variable {w0 w w' : World} {g3 gO gM : Nat} {hs : List Value} {xss : List (List Int)} {vs : List Value} {Us : S72 → Int}
theorem Gz.below (h : Gz w0 w g3 gO hs xss vs) (l : Below w.heap.size w w') : Gz w0 w' g3 gO hs xss vs :=
  ⟨blk_below h.b3 l, h.rows.below l, below_step' h.bel h.size l, Nat.le_trans h.size l.size⟩
theorem Gz.made {i : Nat} {v1 : Value} {ys : List Int} (h : Gz w0 w g3 gO hs xss vs) (hi : xss[i]? = some []) (l : Below w.heap.size w w') (r : Kd.R kI 3 w' w0.heap.size (fun _ => True) v1 ys) (hv1 : vs[i]? = some (.slice none 0 0)) (ho : ∃ b, v1.ownBlock = some b ∧ w.heap.size ≤ b) :
    w'.cell? ⟨gO, i * 1, none⟩ = some (.slice none 0 0) ∧ w'.frozen? ⟨gO, i * 1, none⟩ = false ∧ Gz w0 (w'.setCell ⟨gO, i * 1, none⟩ v1) g3 gO hs (xss.set i ys) (vs.set i v1) := by
  obtain ⟨a1, a2, a3, a4, a5⟩ := h.rows.appended (w' := w') rfl (by decide) hv1 hi (E.gbB l) r (.inr ho)
  have h' := h.below l
  exact ⟨a1, a2, blk_grown h'.b3 a4 (E.nes (blk_ne h'.b3 a5 (by decide))), a3, h'.bel.grown a4 h'.size (fun z ez => by cases ez; exact h.rows.hb), Nat.le_trans h'.size a4.size⟩
end
def mkR (i T R : Nat) : List (List Int) := (List.range (T + 1)).map fun m => if m < i then List.replicate R 0 else []
theorem mkR_first (T R : Nat) : mkR 0 T R = List.replicate (T + 1) [] := by
  unfold mkR
  apply List.ext_getElem <;> simp
theorem mkR_last {i T R : Nat} (h : T + 1 ≤ i) : mkR i T R = mat (fun _ _ => 0) T R := by
  unfold mkR mat matR
  refine List.map_congr_left fun m hm => ?_
  have := List.mem_range.mp hm
  rw [if_pos (by omega)]
  apply List.ext_getElem <;> simp
theorem mkR_at {i T R : Nat} (h : i < T + 1) : (mkR i T R)[i]? = some [] := by
  unfold mkR
  rw [List.getElem?_map, List.getElem?_range h]
  simp
theorem mkR_set {i T R : Nat} (h : i < T + 1) : (mkR i T R).set i (List.replicate R 0) = mkR (i + 1) T R := by
  apply List.ext_getElem
  · simp [mkR]
  · intro j h1 h2
    simp only [mkR, List.getElem_set, List.getElem_map, List.getElem_range]
    split
    · subst_vars; rw [if_pos (by omega)]
    · by_cases q : j < i
      · rw [if_pos q, if_pos (by omega)]
      · rw [if_neg q, if_neg (by omega)]
/-! ### The changes are bounded -/
theorem chM_b {qs : List S45} {T : Int} {l : List S35} {n : Nat} (h : ∀ k, k < n → ∀ x, l[k]? = some x → MvOk qs T x) (hn : n ≤ 1000000) (m r : Nat) : -20000000 ≤ chM qs (l.take n) m r ∧ chM qs (l.take n) m r ≤ 20000000 := by
  have h1 := sumM_b2 (h := chF qs r m) (b := 20) (l := l.take n) (fun x hx => by
    obtain ⟨k, hk⟩ := List.mem_iff_getElem?.mp hx
    rw [List.getElem?_take] at hk
    split at hk
    · next q =>
      obtain ⟨_, _, q3, q4, _⟩ := h k q x hk
      unfold chF
      split <;> split <;> omega
    · cases hk)
  have h2 : (l.take n).length ≤ n := by rw [List.length_take]; omega
  unfold chM
  omega
/-- Who is in a room while the changes up to a minute are carried out. -/
def thA (ps : List Int) (F : Nat → Nat → Int) (m r j : Nat) : Int := ps.getD j 0 + sumN (fun a => F a j) m + (if j < r then F m j else 0)
def thR (ps : List Int) (F : Nat → Nat → Int) (R m r : Nat) : List Int := (List.range R).map (thA ps F m r)
theorem thR_get {ps : List Int} {F : Nat → Nat → Int} {R m r j : Nat} (h : j < R) : (thR ps F R m r)[j]? = some (thA ps F m r j) := by
  unfold thR
  rw [List.getElem?_map, List.getElem?_range h]
  rfl
theorem thR_first (ps : List Int) (F : Nat → Nat → Int) : thR ps F ps.length 0 0 = ps := by
  apply List.ext_getElem
  · simp [thR]
  · intro j h1 h2
    simp [thR, thA, sumN, List.getD_eq_getElem?_getD, h2]
theorem thR_next (ps : List Int) (F : Nat → Nat → Int) {R r : Nat} (m : Nat) (h : R ≤ r) : thR ps F R m r = thR ps F R (m + 1) 0 := by
  unfold thR
  refine List.map_congr_left fun j hj => ?_
  have := List.mem_range.mp hj
  unfold thA
  rw [if_pos (by omega), if_neg (by omega), sumN]
  omega
theorem thR_set (ps : List Int) (F : Nat → Nat → Int) {R r : Nat} (m : Nat) (h : r < R) : (thR ps F R m r).set r (thA ps F m r r + F m r) = thR ps F R m (r + 1) := by
  apply List.ext_getElem
  · simp [thR]
  · intro j h1 h2
    simp only [thR, List.getElem_set, List.getElem_map, List.getElem_range]
    split
    · subst_vars
      unfold thA
      rw [if_neg (by omega), if_pos (by omega)]
      omega
    · unfold thA
      by_cases q : j < r
      · rw [if_pos q, if_pos (by omega)]
      · rw [if_neg q, if_neg (by omega)]
theorem thA_after (ps : List Int) (F : Nat → Nat → Int) (m r : Nat) : thA ps F m (r + 1) r = ps.getD r 0 + sumN (fun a => F a r) (m + 1) := by
  unfold thA
  rw [if_pos (by omega), sumN]
  omega
theorem sumN_b2 {F : Nat → Int} {b : Int} (h : ∀ k, -b ≤ F k ∧ F k ≤ b) : ∀ n : Nat, -(b * n) ≤ sumN F n ∧ sumN F n ≤ b * n
  | 0 => by simp [sumN]
  | n + 1 => by
    have h1 := sumN_b2 h n
    have h2 := h n
    have h3 : b * ((n + 1 : Nat) : Int) = b * n + b := by push_cast; rw [Int.mul_add, Int.mul_one]
    rw [h3]
    simp only [sumN]
    omega
theorem sumN_sumM (G : Nat → S35 → Int) (n : Nat) : ∀ l : List S35, sumN (fun a => sumM (G a) l) n = sumM (fun x => sumN (fun a => G a x) n) l
  | [] => by simp only [sumM]; exact sumN_zero n
  | x :: l => by simp only [sumM]; rw [sumN_add, sumN_sumM G n l]
theorem sumN_pick (u : Nat) (v : Int) (p : Prop) [Decidable p] (n : Nat) : sumN (fun a => if p ∧ (u : Int) = (a : Nat) then v else 0) n = if p ∧ u < n then v else 0 := by
  by_cases hu : u < n
  · rw [sumN_eq (u := u) hu]
    · by_cases hp : p
      · rw [if_pos ⟨hp, rfl⟩, if_pos ⟨hp, hu⟩]
      · rw [if_neg (fun z => hp z.1), if_neg (fun z => hp z.1)]
    · intro a _ ha
      exact if_neg (fun z => ha (by have := z.2; omega))
  · rw [if_neg (fun z => hu z.2)]
    rw [sumN_congr (b := fun _ => 0) (fun a ha => if_neg (fun z => by have := z.2; omega)), sumN_zero]
/-- All changes up to a minute are who is there. -/
theorem ch_th {ps : List Int} {qs : List S45} {T : Int} {l : List S35} (hok : HOk ps qs) (h : ∀ x ∈ l, MvOk qs T x) (r m : Nat) : ps.getD r 0 + sumN (fun a => chM qs l a r) (m + 1) = thM ps qs l r m := by
  unfold thM chM
  rw [sumN_sumM]
  congr 1
  refine sumM_congr' fun x hx => ?_
  obtain ⟨⟨a1, a2⟩, ⟨a3, a4⟩, a5, a6, a7⟩ := h x hx
  have hq := hok.q _ (getD_mem (l := qs) (i := x.f1.toNat) (z := P.z45) (by omega))
  obtain ⟨_, _, _, _, _, _, _, q8, q9⟩ := hq
  obtain ⟨t, ht⟩ : ∃ t : Nat, x.f0 = t := ⟨x.f0.toNat, by omega⟩
  obtain ⟨k, hk⟩ : ∃ k : Nat, (qs.getD x.f1.toNat P.z45).f3 = k := ⟨(qs.getD x.f1.toNat P.z45).f3.toNat, by omega⟩
  unfold chF thF
  rw [sumN_sub, hk, ht]
  have e1 := sumN_pick (t + k) x.f2 ((qs.getD x.f1.toNat P.z45).f1 = r) (m + 1)
  have e2 := sumN_pick t x.f2 ((qs.getD x.f1.toNat P.z45).f0 = r) (m + 1)
  push_cast at e1
  rw [e1, e2]
  congr 1
  · by_cases z : (qs.getD x.f1.toNat P.z45).f1 = r ∧ t + k < m + 1
    · rw [if_pos z, if_pos ⟨z.1, by omega⟩]
    · rw [if_neg z, if_neg (fun y => z ⟨y.1, by omega⟩)]
  · by_cases z : (qs.getD x.f1.toNat P.z45).f0 = r ∧ t < m + 1
    · rw [if_pos z, if_pos ⟨z.1, by omega⟩]
    · rw [if_neg z, if_neg (fun y => z ⟨y.1, by omega⟩)]
/-- A move's changes. -/
theorem ch_out {qs : List S45} {q : S45} {l : List S35} {i T R t0 a0 : Nat} {x : S35} (hx : l[i]? = some x) (hq : qs.getD x.f1.toNat P.z45 = q) (h1 : (t0 : Int) = x.f0) (h2 : (a0 : Int) = q.f0) (h3 : q.f1 = -1) :
    mat (setF (chM qs (l.take i)) t0 a0 (chM qs (l.take i) t0 a0 - x.f2)) T R = mat (chM qs (l.take (i + 1))) T R := by
  refine mat_congr fun m r _ _ => ?_
  show setF _ _ _ _ _ _ = sumM _ _
  rw [sumM_step hx]
  show _ = chM qs (l.take i) m r + _
  unfold chF
  rw [hq]
  have d2 : (q.f0 = (r : Int) ∧ x.f0 = (m : Int)) ↔ (m = t0 ∧ r = a0) := by omega
  rw [if_neg (show ¬ (q.f1 = (r : Int) ∧ x.f0 + q.f3 = (m : Int)) by omega)]
  unfold setF
  by_cases e : m = t0 ∧ r = a0
  · rw [if_pos e, if_pos (d2.mpr e)]
    obtain ⟨rfl, rfl⟩ := e
    omega
  · rw [if_neg e, if_neg (fun z => e (d2.mp z))]
    omega
theorem ch_in {qs : List S45} {q : S45} {l : List S35} {i T R t0 a0 t1 b0 : Nat} {x : S35} (hx : l[i]? = some x) (hq : qs.getD x.f1.toNat P.z45 = q) (h1 : (t0 : Int) = x.f0) (h2 : (a0 : Int) = q.f0) (h3 : (b0 : Int) = q.f1) (h4 : (t1 : Int) = x.f0 + q.f3) :
    mat (setF (setF (chM qs (l.take i)) t0 a0 (chM qs (l.take i) t0 a0 - x.f2)) t1 b0 (setF (chM qs (l.take i)) t0 a0 (chM qs (l.take i) t0 a0 - x.f2) t1 b0 + x.f2)) T R = mat (chM qs (l.take (i + 1))) T R := by
  refine mat_congr fun m r _ _ => ?_
  show setF (setF _ _ _ _) _ _ _ _ _ = sumM _ _
  rw [sumM_step hx]
  show _ = chM qs (l.take i) m r + _
  have k0 : chM qs (l.take i) m r = sumM (chF qs r m) (l.take i) := rfl
  unfold chF
  rw [hq]
  have d1 : (q.f1 = (r : Int) ∧ x.f0 + q.f3 = (m : Int)) ↔ (m = t1 ∧ r = b0) := by omega
  have d2 : (q.f0 = (r : Int) ∧ x.f0 = (m : Int)) ↔ (m = t0 ∧ r = a0) := by omega
  unfold setF
  by_cases e : m = t1 ∧ r = b0
  · rw [if_pos e, if_pos (d1.mpr e)]
    obtain ⟨rfl, rfl⟩ := e
    by_cases e2 : m = t0 ∧ r = a0
    · rw [if_pos e2, if_pos (d2.mpr e2)]
      obtain ⟨rfl, rfl⟩ := e2
      omega
    · rw [if_neg e2, if_neg (fun z => e2 (d2.mp z))]
      omega
  · rw [if_neg e, if_neg (fun z => e (d1.mp z))]
    by_cases e2 : m = t0 ∧ r = a0
    · rw [if_pos e2, if_pos (d2.mpr e2)]
      obtain ⟨rfl, rfl⟩ := e2
      omega
    · rw [if_neg e2, if_neg (fun z => e2 (d2.mp z))]
      omega
theorem used_step {l : List S35} {i : Nat} {x : S35} (hx : l[i]? = some x) (y : S72) : E.updZ (fun y : S72 => usedM (l.take i) y.f0 y.f1) ⟨x.f1, x.f0⟩ (usedM (l.take i) x.f1 x.f0 + x.f2) y = usedM (l.take (i + 1)) y.f0 y.f1 := by
  show _ = sumM _ _
  rw [sumM_step hx]
  unfold E.updZ
  obtain ⟨a, b⟩ := y
  simp only [usedF]
  by_cases e : (⟨a, b⟩ : S72) = ⟨x.f1, x.f0⟩
  · rw [if_pos e]
    injection e with e1 e2
    rw [if_pos ⟨e2.symm, e1.symm⟩, e1, e2]
    rfl
  · rw [if_neg e, if_neg (fun z => e (by rw [z.1, z.2]))]
    show usedM _ _ _ = _
    unfold usedM
    omega
set_option maxRecDepth 100000 in
set_option maxHeartbeats 8000000 in

theorem goneP_calls (ps : List Int) (qs : List S45) (A B C : Option Addr) (c d k : Nat) (m0 : Int) (l : List S35) (w : World) (hP : Kd.C kI w A ps.length ps) (hQ : Kd.C k45 w B qs.length qs) (hX : Kd.C k35 w C l.length l) (hn1 : ps.length ≤ 1000000) (hn2 : qs.length ≤ 1000000) (hn : l.length ≤ 1000000) :
    Calls Try.prog 16 #[hv ps qs A B c d, .int .i64 m0, .slice C l.length k] w fun e w' => ∃ N E, e = .returned (.tuple #[.int .i64 N, .int .i64 E]) ∧ GoneR ps qs m0 l N E ∧ Below w.heap.size w w' := by
  have hu3 := Try.underlying3
  have hu22 := Try.underlying22
  have hu23 := Try.underlying23
  have hu25 := Try.underlying25
  have hu26 := Try.underlying26
  have hu35 := Try.underlying35
  have hu45 := Try.underlying45
  have hu68 := Try.underlying68
  have hu69 := Try.underlying69
  have hu72 := Try.underlying72
  obtain ⟨z3, o3⟩ := info_some info3s (by decide)
  obtain ⟨z22, o22⟩ := info_some info22s (by decide)
  obtain ⟨z23, o23⟩ := info_some info23s (by decide)
  obtain ⟨z25, o25⟩ := info_some info25s (by decide)
  obtain ⟨z35, o35⟩ := info_some info35s (by decide)
  obtain ⟨z45, o45⟩ := info_some info45s (by decide)
  obtain ⟨z72, o72⟩ := info_some info72s (by decide)
  refine E.enter (N := 149) Try.func16 rfl Try.ntmps16 (args := [hv ps qs A B c d, .int .i64 m0, .slice C l.length k]) (by simp) ?_
  have L := Below.refl w.heap.size w
  refine E.CG.seq ?_
  refine E.CG.list ?_
  refine E.GL.st rfl rfl rfl (E.ST.box rfl rfl fun g3 w3 e3 b3 l3 => ?_)
  have h3_L : w.heap.size ≤ g3 := by rw [e3]; exact L.size
  replace L := below_step L l3
  refine E.GL.run rfl rfl rfl (E.Runs.assign rfl rfl) ?_
  refine E.GL.run rfl rfl rfl (E.Runs.assign rfl rfl) ?_
  refine E.GL.done ?_
  refine E.QG.code ?_
  refine E.CG.seq ?_
  refine E.CG.seq ?_
  refine E.CG.list ?_
  refine E.GL.run rfl rfl rfl (E.Runs.loads (cs := [.slice A ps.length c, .slice B qs.length d]) rfl rfl hu25 rfl info25s (blk_cells b3)) ?_
  refine E.GL.run rfl rfl rfl (E.Runs.move rfl rfl) ?_
  refine E.GL.st rfl rfl rfl (E.ST.call rfl ent45 (E.evc rfl (E.evc rfl E.evn)) ((chk45 ps qs A B c d _ (Kd.C_below hP L) (Kd.C_below hQ L) hn1 hn2 m0).mono ?_))
  rintro e w24 ⟨rfl, l24⟩
  refine ⟨_, rfl, ?_⟩
  replace b3 := blk_below b3 l24
  replace L := below_step L l24
  refine E.GL.run rfl rfl rfl (E.Runs.assign rfl rfl) ?_
  refine E.GL.done ?_
  refine E.QG.code ?_
  refine E.CG.seq ?_
  refine E.CG.list ?_
  refine E.GL.run rfl rfl rfl (E.Runs.move rfl rfl) ?_
  refine E.GL.cmpn rfl rfl rfl (fun _ h => (E.Runs.neq rfl rfl rfl h)) (fun h26 => ?_) (fun h26 => ?_)
  · refine E.GL.done ?_
    refine E.QG.code ?_
    refine E.CG.cond_t rfl ?_
    refine E.CG.seq ?_
    refine E.CG.list ?_
    refine E.GL.run rfl rfl rfl (E.Runs.move rfl rfl) ?_
    refine E.GL.run rfl rfl rfl (E.Runs.assign rfl rfl) ?_
    refine E.GL.run rfl rfl rfl (E.Runs.assign rfl rfl) ?_
    refine E.GL.done ?_
    refine E.QG.code ?_
    refine E.CG.ret ?_
    refine E.QG.pass_ret ?_
    exact E.QG.result2 rfl rfl rfl ⟨_, _, rfl, ⟨fun _ => ⟨rfl, rfl⟩, fun k => absurd k h26⟩, L⟩
  · have hE := h26
    obtain ⟨hH, hm0, hm1⟩ := chkE_ok.mp h26
    obtain ⟨T, rfl⟩ : ∃ T : Nat, m0 = T := ⟨m0.toNat, by omega⟩
    have hT : T ≤ 60 := by omega
    have hr6 := hH.r6
    have hq12 := hH.q12
    refine E.GL.done ?_
    refine E.QG.code ?_
    refine E.CG.cond_f rfl ?_
    refine E.CG.skip ?_
    refine E.QG.code ?_
    refine E.CG.seq ?_
    refine E.CG.list ?_
    refine E.GL.run rfl rfl rfl (E.Runs.move rfl rfl) ?_
    refine E.GL.run rfl rfl rfl (E.Runs.add rfl rfl rfl (IntWalk.i64_in _ (by omega))) ?_
    refine E.GL.st rfl rfl rfl (E.ST.makeB (m := T + 1) rfl (by push_cast; rfl) (by push_cast; rfl) hu68 info22 rfl (by omega) fun gO w30 e30 bO l30 => ?_)
    have hgO : w.heap.size ≤ gO := by rw [e30]; exact L.size
    replace b3 := blk_below b3 l30
    replace L := below_step L l30
    refine E.GL.run rfl rfl rfl (E.Runs.assign rfl rfl) ?_
    refine E.GL.done ?_
    refine E.QG.code ?_
    refine E.CG.seq ?_
    refine E.CG.seq ?_
    refine E.CG.list ?_
    refine E.GL.run rfl rfl rfl (E.Runs.move rfl rfl) ?_
    refine E.GL.run rfl rfl rfl (E.Runs.len rfl rfl hu68) ?_
    refine E.GL.run rfl rfl rfl (E.Runs.move rfl rfl) ?_
    refine E.GL.done ?_
    refine E.QG.code ?_
    refine E.CG.block ?_
    have hM : ∃ vs, Gz w _ g3 gO [.slice A ps.length c, .slice B qs.length d] (mkR 0 T ps.length) vs ∧ ∀ j, 0 ≤ j → j < T + 1 → vs[j]? = some (.slice none 0 0) := ⟨_, ⟨b3, by rw [mkR_first]; exact Rows.fresh _ _ _ hgO bO, L, L.size⟩, fun j _ hj => by rw [List.getElem?_replicate, if_pos hj]⟩
    have s6_b3 := b3
    have s6_L := L
    refine E.CG.loop (fun (i : Nat) => [(1, .int .i64 (T : Int)), (2, .slice C l.length k), (3, .pointer (some ⟨g3, 0, none⟩)), (9, .slice (some ⟨gO, 0, none⟩) (T + 1) (T + 1)), (32, .int .i64 ((T + 1 : Nat) : Int)), (33, .int .i64 i)]) (fun i w' => i ≤ T + 1 ∧ ∃ vs, Gz w w' g3 gO [.slice A ps.length c, .slice B qs.length d] (mkR i T ps.length) vs ∧ ∀ j, i ≤ j → j < T + 1 → vs[j]? = some (.slice none 0 0)) (fun i => T + 1 - i) 0 (E.subc rfl (E.subc rfl (E.subc rfl (E.subc rfl (E.subc rfl (E.subc rfl E.subn)))))) ⟨Nat.zero_le _, hM⟩ ?_
    rintro i w6 ⟨hi, vs, hM, hnil⟩
    refine E.CG.seq ?_
    refine E.CG.list ?_
    refine E.GL.cmp rfl rfl rfl (fun _ h => (E.Runs.lss rfl rfl rfl h)) (fun h34 => ?_) (fun h34 => ?_)
    · refine E.GL.done ?_
      refine E.QG.code ?_
      refine E.CG.seq ?_
      refine E.CG.cond_t rfl ?_
      refine E.CG.skip ?_
      refine E.QG.code ?_
      refine E.CG.seq ?_
      refine E.CG.block ?_
      refine E.CG.seq ?_
      refine E.CG.list ?_
      refine E.GL.run rfl rfl rfl (E.Runs.move rfl rfl) ?_
      refine E.GL.run rfl rfl rfl (E.Runs.assign rfl rfl) ?_
      refine E.GL.done ?_
      refine E.QG.code ?_
      refine E.CG.list ?_
      refine E.GL.run rfl rfl rfl (E.Runs.move rfl rfl) ?_
      refine E.GL.run rfl rfl rfl (E.Runs.move rfl rfl) ?_
      refine E.GL.run rfl rfl rfl (E.Runs.fieldAddr rfl rfl hu25 rfl (by assumption) rfl) ?_
      refine E.GL.run rfl rfl rfl (E.Runs.load1 rfl rfl hu22 rfl (E.blkc hM.b3 rfl)) ?_
      refine E.GL.run rfl rfl rfl (E.Runs.len rfl rfl hu22) ?_
      refine E.GL.st rfl rfl rfl (E.ST.makeR kI w.heap.size 3 rfl rfl rfl rfl hu22 (.int .i64 0) 8 info3 rfl (by decide) (by decide) 0 rfl (by omega) hM.bel hM.size fun v41 w41 r41 k41 l41 o41 => ?_)
      refine E.GL.run rfl rfl rfl (E.Runs.indexAddrA (i := i) rfl rfl rfl hu68 z22 o22 (by omega) rfl (show _ = (⟨gO, i * 1, none⟩ : Addr) from by rw [Go.Addr.add_mid, Nat.zero_add])) ?_
      obtain ⟨hc87, hf87, hM87⟩ := hM.made (mkR_at (by omega)) l41 r41 (hnil i (Nat.le_refl _) (by omega)) o41
      obtain ⟨A41, c41, hv41⟩ := Kd.R_slice r41
      rw [List.length_replicate] at hv41
      subst hv41
      refine E.GL.sn rfl rfl (E.ST.storeC rfl z22 o22 rfl rfl (.inr ⟨_, _, _, rfl⟩) hc87 hf87 ?_)
      obtain ⟨wS, hwS⟩ : ∃ z, z = w41.setCell ⟨gO, i * 1, none⟩ (.slice A41 ps.length c41) := ⟨_, rfl⟩
      rw [← hwS] at hM87 ⊢
      rw [mkR_set (by omega)] at hM87
      clear hM hc87 hf87 k41 l41
      have hM := hM87
      clear hM87
      refine E.GL.done ?_
      refine E.QG.block_normal ?_
      refine E.QG.code ?_
      refine E.CG.list ?_
      refine E.GL.run rfl rfl rfl (E.Runs.add rfl rfl rfl (IntWalk.i64_in _ (by omega))) ?_
      refine E.GL.run rfl rfl rfl (E.Runs.move rfl rfl) ?_
      refine E.GL.done ?_
      exact E.QG.round (i + 1) (E.subc rfl (E.subc rfl (E.subc rfl (E.subc rfl (E.subc rfl (E.subc rfl E.subn)))))) ⟨by omega, _, hM, fun j h1 h2 => by rw [List.getElem?_set_ne (by omega)]; exact hnil j (by omega) h2⟩ (by omega)
    · refine E.GL.done ?_
      refine E.QG.code ?_
      refine E.CG.seq ?_
      refine E.CG.cond_f rfl ?_
      refine E.CG.exit ?_
      refine E.QG.pass_exit ?_
      refine E.QG.pass_exit ?_
      refine E.QG.block_here ?_
      refine E.QG.code ?_
      refine E.CG.seq ?_
      refine E.CG.list ?_
      refine E.GL.st rfl rfl rfl (E.ST.makeMap ek72 evI rfl fun gM w44 eM m44 l44 => ?_)
      rw [mkR_last (by omega)] at hM
      have hM44 : Gs w w44 g3 gO gM [.slice A ps.length c, .slice B qs.length d] (mat (fun _ _ => 0) T ps.length) vs (fun _ => 0) := ⟨blk_below hM.b3 l44, hM.rows.below l44, ⟨_, m44, fun x => rfl⟩, by rw [eM]; exact hM.size, below_step' hM.bel hM.size l44, Nat.le_trans hM.size l44.size⟩
      clear hM
      have hM := hM44
      clear hM44 m44
      refine E.GL.run rfl rfl rfl (E.Runs.assign rfl rfl) ?_
      refine E.GL.done ?_
      refine E.QG.code ?_
      refine E.CG.seq ?_
      refine E.CG.list ?_
      refine E.GL.run rfl rfl rfl (E.Runs.assign rfl rfl) ?_
      refine E.GL.done ?_
      refine E.QG.code ?_
      refine E.CG.seq ?_
      refine E.CG.seq ?_
      refine E.CG.list ?_
      refine E.GL.run rfl rfl rfl (E.Runs.move rfl rfl) ?_
      refine E.GL.run rfl rfl rfl (E.Runs.len rfl rfl hu26) ?_
      refine E.GL.run rfl rfl rfl (E.Runs.move rfl rfl) ?_
      refine E.GL.done ?_
      refine E.QG.code ?_
      refine E.CG.block ?_
      refine E.CG.loop (fun (i : Nat) => [(1, .int .i64 (T : Int)), (2, .slice C l.length k), (3, .pointer (some ⟨g3, 0, none⟩)), (9, .slice (some ⟨gO, 0, none⟩) (T + 1) (T + 1)), (11, .map (some gM)), (12, .int .i64 (outM qs (l.take i))), (45, .slice C l.length k), (46, .int .i64 l.length), (47, .int .i64 i)]) (fun i w' => i ≤ l.length ∧ Gs w w' g3 gO gM [.slice A ps.length c, .slice B qs.length d] (mat (chM qs (l.take i)) T ps.length) vs (fun y : S72 => usedM (l.take i) y.f0 y.f1) ∧ ∀ k, k < i → ∀ x, l[k]? = some x → Mv1 qs T l k x) (fun i => l.length - i) 0 (E.subc rfl (E.subc rfl (E.subc rfl (E.subc rfl (E.subc rfl (E.subc rfl (E.subc rfl (E.subc rfl (E.subc rfl E.subn))))))))) ⟨Nat.zero_le _, hM, fun k hk => by omega⟩ ?_
      rintro i w13 ⟨hi, hM, hmv⟩
      refine E.CG.seq ?_
      refine E.CG.list ?_
      refine E.GL.cmp rfl rfl rfl (fun _ h => (E.Runs.lss rfl rfl rfl h)) (fun h48 => ?_) (fun h48 => ?_)
      · obtain ⟨x, hx⟩ : ∃ x, l[i]? = some x := ⟨_, List.getElem?_eq_getElem (by omega)⟩
        obtain ⟨ad, eA, X⟩ := move_at hX hx
        refine E.GL.done ?_
        refine E.QG.code ?_
        refine E.CG.seq ?_
        refine E.CG.cond_t rfl ?_
        refine E.CG.skip ?_
        refine E.QG.code ?_
        refine E.CG.seq ?_
        refine E.CG.block ?_
        refine E.CG.seq ?_
        refine E.CG.list ?_
        refine E.GL.run rfl rfl rfl (E.Runs.indexAddrA rfl rfl rfl hu26 z35 o35 (show (i : Int) < l.length by omega) eA rfl) ?_
        refine E.GL.run rfl rfl rfl (E.Runs.loads (cs := [.int .i64 x.f0, .int .i64 x.f1, .int .i64 x.f2]) rfl rfl hu35 rfl info35s (fun j v hv => pw_cell_below hM.bel (X j v hv))) ?_
        have hsz14 := hM.size
        refine E.GL.st rfl rfl rfl (E.ST.alloc rfl info35z fun g14 w14 e14 b14 l14 => ?_)
        replace hM := hM.below l14
        have hg14 : w.heap.size ≤ g14 := by rw [e14]; exact hsz14
        refine E.GL.store_whole rfl rfl rfl rfl rfl b14 rfl info35s (three_one _ _ _) fun wS14_3 c14 lS14_3 => ?_
        replace hM := hM.grown lS14_3 (by first | exact ⟨⟨_, _, b14, by decide, by decide, by decide⟩, hg14⟩ | exact ⟨⟨_, _, b15, by decide, by decide, by decide⟩, hg15⟩ | exact ⟨⟨_, _, b16, by decide, by decide, by decide⟩, hg16⟩ | fail)
        replace b14 := c14
        clear c14
        refine E.GL.done ?_
        refine E.QG.code ?_
        refine E.CG.seq ?_
        refine E.CG.seq ?_
        refine E.CG.list ?_
        refine E.GL.run rfl rfl rfl (E.Runs.loads (cs := [.slice A ps.length c, .slice B qs.length d]) rfl rfl hu25 rfl info25s (blk_cells hM.b3)) ?_
        refine E.GL.run rfl rfl rfl (E.Runs.move rfl rfl) ?_
        refine E.GL.run rfl rfl rfl (E.Runs.loads (cs := [.int .i64 x.f0, .int .i64 x.f1, .int .i64 x.f2]) rfl rfl hu35 rfl info35s (blk_cells b14)) ?_
        by_cases h54 : IsMv qs T x
        · obtain ⟨⟨_, _⟩, ⟨_, _⟩, hv1, hv2, hv3⟩ := id h54
          obtain ⟨u, hu1⟩ : ∃ u : Nat, (u : Int) = x.f1 := ⟨x.f1.toNat, by omega⟩
          have hul : u < qs.length := by omega
          obtain ⟨q, hq⟩ : ∃ q, q = qs.getD u P.z45 := ⟨_, rfl⟩
          have hqu : qs.getD x.f1.toNat P.z45 = q := by rw [hq, ← hu1, Int.toNat_natCast]
          rw [hqu] at hv2 hv3
          obtain ⟨aQ, eQ, cQ⟩ := pass_at hQ (show qs[u]? = some q by rw [hq]; exact getD_some hul _)
          obtain ⟨hq1, hq2, hq3, hq4, hq5, hq6, hq7, hq8, hq9⟩ := hH.q q (by rw [hq]; exact getD_mem hul)
          obtain ⟨t0, ht0⟩ : ∃ u : Nat, (u : Int) = x.f0 := ⟨x.f0.toNat, by omega⟩
          obtain ⟨a0, ha0⟩ : ∃ u : Nat, (u : Int) = q.f0 := ⟨q.f0.toNat, by omega⟩
          have hmo : MvOk qs T x := ⟨⟨by omega, by omega⟩, ⟨by omega, by omega⟩, by omega, by omega, by rw [hqu]; omega⟩
          have hub := usedM_b (fun k hk x hx => (hmv k hk x hx).1) x.f1 x.f0 (n := i)
          have hcb := fun m r => chM_b (qs := qs) (T := T) (l := l) (n := i) (fun k hk x hx => (hmv k hk x hx).1) (by omega) m r
          have hst := sumM_step (h := outF qs) hx
          have hob := outM_b (mvIn_of (qs := qs) (l := l.take i) (n := i) (fun k hk x hx => by rw [List.getElem?_take, if_pos hk] at hx; exact (hmv k hk x hx).1) (by rw [List.length_take]; omega))
          have hlt : (l.take i).length ≤ l.length := by rw [List.length_take]; omega
          refine E.GL.st rfl rfl rfl (E.ST.call rfl ent46 (E.evc rfl (E.evc rfl (E.evc rfl E.evn))) ((isMove_calls ps qs A B c d T x true hH (iff_of_true rfl h54) _ (Kd.C_below hQ hM.bel) hT).mono ?_))
          rintro e w54 ⟨rfl, l54⟩
          refine ⟨_, rfl, ?_⟩
          replace b14 := blk_below b14 l54
          replace hM := hM.below l54
          refine E.GL.run rfl rfl rfl (E.Runs.not rfl rfl) ?_
          refine E.GL.done ?_
          refine E.QG.code ?_
          refine E.CG.cond_f rfl ?_
          refine E.CG.skip ?_
          refine E.QG.code ?_
          refine E.CG.seq ?_
          refine E.CG.list ?_
          refine E.GL.run rfl rfl rfl (E.Runs.fieldAddr rfl rfl hu25 rfl (by assumption) rfl) ?_
          refine E.GL.run rfl rfl rfl (E.Runs.load1 rfl rfl hu23 rfl (E.blkc hM.b3 rfl)) ?_
          refine E.GL.run rfl rfl rfl (E.Runs.fieldAddr rfl rfl hu35 rfl (by assumption) rfl) ?_
          refine E.GL.run rfl rfl rfl (E.Runs.load rfl rfl hu3 (by first | assumption | exact E.blkc (by assumption) rfl)) ?_
          refine E.GL.run rfl rfl rfl (E.Runs.indexAddrA (i := u) rfl rfl (by rw [hu1]; rfl) hu23 z45 o45 (show (u : Int) < qs.length by omega) eQ rfl) ?_
          refine E.GL.run rfl rfl rfl (E.Runs.loads (cs := [.int .i64 q.f0, .int .i64 q.f1, .int .i64 q.f2, .int .i64 q.f3]) rfl rfl hu45 rfl info45s (fun j v hv => pw_cell_below hM.bel (cQ j v hv))) ?_
          have hsz15 := hM.size
          refine E.GL.st rfl rfl rfl (E.ST.alloc rfl info45z fun g15 w15 e15 b15 l15 => ?_)
          have n15_b14 : g14 ≠ g15 := by have := blk_lt b14; omega
          replace b14 := blk_below b14 l15
          replace hM := hM.below l15
          have hg15 : w.heap.size ≤ g15 := by rw [e15]; exact hsz15
          refine E.GL.store_whole rfl rfl rfl rfl rfl b15 rfl info45s (four_one _ _ _ _) fun wS17_7 c15 lS17_7 => ?_
          replace b14 := blk_grown b14 lS17_7 (E.nes (by first | assumption | exact Ne.symm (by assumption)))
          replace hM := hM.grown lS17_7 (by first | exact ⟨⟨_, _, b14, by decide, by decide, by decide⟩, hg14⟩ | exact ⟨⟨_, _, b15, by decide, by decide, by decide⟩, hg15⟩ | exact ⟨⟨_, _, b16, by decide, by decide, by decide⟩, hg16⟩ | fail)
          replace b15 := c15
          clear c15
          refine E.GL.done ?_
          refine E.QG.code ?_
          refine E.CG.seq ?_
          refine E.CG.list ?_
          refine E.GL.run rfl rfl rfl (E.Runs.fieldAddr rfl rfl hu35 rfl (by assumption) rfl) ?_
          refine E.GL.run rfl rfl rfl (E.Runs.load rfl rfl hu3 (by first | assumption | exact E.blkc (by assumption) rfl)) ?_
          refine E.GL.run rfl rfl rfl (E.Runs.fieldAddr rfl rfl hu35 rfl (by assumption) rfl) ?_
          refine E.GL.run rfl rfl rfl (E.Runs.load rfl rfl hu3 (by first | assumption | exact E.blkc (by assumption) rfl)) ?_
          refine E.GL.run rfl rfl rfl (E.Runs.build rfl (E.epc rfl (E.epc rfl E.epn)) (build72b _ _)) ?_
          have hsz16 := hM.size
          refine E.GL.st rfl rfl rfl (E.ST.alloc rfl info72z fun g16 w16 e16 b16 l16 => ?_)
          have n16_b14 : g14 ≠ g16 := by have := blk_lt b14; omega
          have n16_b15 : g15 ≠ g16 := by have := blk_lt b15; omega
          replace b14 := blk_below b14 l16
          replace b15 := blk_below b15 l16
          replace hM := hM.below l16
          have hg16 : w.heap.size ≤ g16 := by rw [e16]; exact hsz16
          refine E.GL.store_whole rfl rfl rfl rfl rfl b16 rfl info72s (two_one _ _) fun wS18_6 c16 lS18_6 => ?_
          replace b14 := blk_grown b14 lS18_6 (E.nes (by first | assumption | exact Ne.symm (by assumption)))
          replace b15 := blk_grown b15 lS18_6 (E.nes (by first | assumption | exact Ne.symm (by assumption)))
          replace hM := hM.grown lS18_6 (by first | exact ⟨⟨_, _, b14, by decide, by decide, by decide⟩, hg14⟩ | exact ⟨⟨_, _, b15, by decide, by decide, by decide⟩, hg15⟩ | exact ⟨⟨_, _, b16, by decide, by decide, by decide⟩, hg16⟩ | fail)
          replace b16 := c16
          clear c16
          refine E.GL.done ?_
          refine E.QG.code ?_
          refine E.CG.seq ?_
          refine E.CG.seq ?_
          refine E.CG.heldJ 8 (fun v W => v.grownBy W (some gM) ∧ (E.Mz ek72 evI 0 v gM (fun y : S72 => usedM (l.take i) y.f0 y.f1) → E.Mz ek72 evI 0 W gM (fun y : S72 => usedM (l.take i) y.f0 y.f1))) (fun _ _ => True) (by kernel_rfl) (by kernel_rfl) (fun v => ⟨World.grownBy.refl _ _, fun h => h⟩) fun v19 lD => ?_
          replace b14 := blk_below b14 lD
          replace b15 := blk_below b15 lD
          replace b16 := blk_below b16 lD
          replace hM := hM.below lD
          have lD19 := lD
          clear lD
          have n14M := map_ne hM.mp b14
          have n15M := map_ne hM.mp b15
          have n16M := map_ne hM.mp b16
          have s_b14 := b14
          have s_b15 := b15
          have s_b16 := b16
          have s_hM := hM
          have hh : v19.grownBy v19 (some gM) := World.grownBy.refl _ _
          refine E.GJ.take1 (i := 0) rfl (by kernel_rfl) (by kernel_rfl) (by kernel_rfl) (by kernel_rfl) rfl (by kernel_rfl) (by kernel_rfl) (by intro c a d v w h; cases d <;> exact h) rfl rfl rfl (fun w' hS => (E.Runs.move rfl rfl)) ?_
          refine E.GJ.take1 (i := 1) rfl (by kernel_rfl) (by kernel_rfl) (by kernel_rfl) (by kernel_rfl) rfl (by kernel_rfl) (by kernel_rfl) (by intro c a d v w h; cases d <;> exact h) rfl rfl rfl (fun w' hS => (E.Runs.loads (cs := [.int .i64 x.f1, .int .i64 x.f0]) rfl rfl hu72 rfl info72s (blk_cells (blk_grown b16 hS.1 (E.nes n16M))))) ?_
          refine E.GJ.take1 (i := 2) rfl (by kernel_rfl) (by kernel_rfl) (by kernel_rfl) (by kernel_rfl) rfl (by kernel_rfl) (by kernel_rfl) (by intro c a d v w h; cases d <;> exact h) rfl rfl rfl (fun w' hS => (lookU (v := usedM (l.take i) x.f1 x.f0) rfl rfl rfl (hS.2 hM.mp) rfl)) ?_
          refine E.GJ.take1 (i := 3) rfl (by kernel_rfl) (by kernel_rfl) (by kernel_rfl) (by kernel_rfl) rfl (by kernel_rfl) (by kernel_rfl) (by intro c a d v w h; cases d <;> exact h) rfl rfl rfl (fun w' hS => (E.Runs.fieldAddr rfl rfl hu35 rfl (by assumption) rfl)) ?_
          refine E.GJ.take1 (i := 4) rfl (by kernel_rfl) (by kernel_rfl) (by kernel_rfl) (by kernel_rfl) rfl (by kernel_rfl) (by kernel_rfl) (by intro c a d v w h; cases d <;> exact h) rfl rfl rfl (fun w' hS => (E.Runs.load rfl rfl hu3 (E.keeps hS.1 (E.blkc b14 rfl) (E.nes n14M)))) ?_
          refine E.GJ.take1 (i := 5) rfl (by kernel_rfl) (by kernel_rfl) (by kernel_rfl) (by kernel_rfl) rfl (by kernel_rfl) (by kernel_rfl) (by intro c a d v w h; cases d <;> exact h) rfl rfl rfl (fun w' hS => (E.Runs.add rfl rfl rfl (IntWalk.i64_in _ (by omega)))) ?_
          refine E.GJ.one (i := 6) (by kernel_rfl) (E.OJ.st rfl rfl rfl rfl (E.ST.mapEntry (z := (0 : Int)) (ev := evI) rfl rfl k72T ⟨x.f1, x.f0⟩ rfl hu69 zero3I hM.mp fun w73 s73 hS73 l73 => ⟨(E.SJ.before (by kernel_rfl)).mpr ⟨l73, fun _ => hS73.mz⟩, ?_⟩))
          replace b14 := blk_grown b14 l73 (E.nes n14M)
          replace b15 := blk_grown b15 l73 (E.nes n15M)
          replace b16 := blk_grown b16 l73 (E.nes n16M)
          replace hM := hM.mapped l73 hS73.mz
          refine E.GJ.take1 (i := 7) rfl (by kernel_rfl) (by kernel_rfl) (by kernel_rfl) (by kernel_rfl) rfl (by kernel_rfl) (by kernel_rfl) (by intro c a d v w h; cases d <;> exact h) rfl rfl rfl (fun w' hS => (E.Runs.extract rfl rfl rfl)) ?_
          refine E.GJ.one (i := 8) (by kernel_rfl) (E.OJ.sn rfl rfl rfl (E.ST.entryStore (v := usedM (l.take i) x.f1 x.f0 + x.f2) rfl rfl rfl rfl k72T hS73 fun w19 hm19 l19 => ⟨(E.SJ.behind (by kernel_rfl)).mpr trivial, ?_⟩))
          replace b14 := blk_grown b14 l19 (E.nes n14M)
          replace b15 := blk_grown b15 l19 (E.nes n15M)
          replace b16 := blk_grown b16 l19 (E.nes n16M)
          replace hM := hM.mapped l19 (hm19.congr (used_step hx))
          clear hm19 l19 l73 hS73
          refine E.GJ.done (by kernel_rfl) ?_
          refine E.QG.code ?_
          refine E.CG.seq ?_
          refine E.CG.quietF (by kernel_rfl) rfl (by kernel_rfl) (by kernel_rfl) ?_
          refine E.GQ.run rfl rfl rfl (E.Runs.move rfl rfl) ?_
          refine E.GQ.run rfl rfl rfl (E.Runs.loads (cs := [.int .i64 x.f1, .int .i64 x.f0]) rfl rfl hu72 rfl info72s (blk_cells b16)) ?_
          refine E.GQ.run rfl rfl rfl (lookU (v := usedM (l.take (i + 1)) x.f1 x.f0) rfl rfl rfl hM.mp rfl) ?_
          refine E.GQ.run rfl rfl rfl (E.Runs.fieldAddr rfl rfl hu45 rfl (by assumption) rfl) ?_
          refine E.GQ.run rfl rfl rfl (E.Runs.load rfl rfl hu3 (by first | assumption | exact E.blkc (by assumption) rfl)) ?_
          refine E.GQ.cmp rfl rfl rfl (fun _ h => (E.Runs.gtr rfl rfl rfl h)) (fun h80 => ?_) (fun h80 => ?_)
          · refine E.GQ.doneB fun v20 lD => ?_
            replace b14 := blk_below b14 lD
            replace b15 := blk_below b15 lD
            replace b16 := blk_below b16 lD
            replace hM := hM.below lD
            have lD20 := lD
            clear lD
            refine E.QG.code ?_
            refine E.CG.cond_t rfl ?_
            refine E.CG.seq ?_
            refine E.CG.list ?_
            refine E.GL.run rfl rfl rfl (E.Runs.assign rfl rfl) ?_
            refine E.GL.run rfl rfl rfl (E.Runs.assign rfl rfl) ?_
            refine E.GL.done ?_
            refine E.QG.code ?_
            refine E.CG.ret ?_
            refine E.QG.pass_ret ?_
            refine E.QG.block_ret ?_
            refine E.QG.pass_ret ?_
            refine E.QG.pass_ret ?_
            refine E.QG.block_ret ?_
            refine E.QG.pass_ret ?_
            exact E.QG.result2 rfl rfl rfl ⟨_, _, rfl, ⟨fun k => absurd hE k, fun _ => ⟨fun k => by rw [Int.toNat_natCast] at k; exact absurd k (fun k => by have := (k.mv i x hx).2; rw [hqu] at this; omega), fun _ => ⟨rfl, rfl⟩⟩⟩, hM.bel⟩
          · refine E.GQ.doneB fun v20 lD => ?_
            replace b14 := blk_below b14 lD
            replace b15 := blk_below b15 lD
            replace b16 := blk_below b16 lD
            replace hM := hM.below lD
            have lD20 := lD
            clear lD
            refine E.QG.code ?_
            refine E.CG.cond_f rfl ?_
            refine E.CG.skip ?_
            refine E.QG.code ?_
            refine E.CG.seq ?_
            refine E.CG.heldJ 13 (fun v W => v.grownBy W (none)) (fun _ _ => True) (by kernel_rfl) (by kernel_rfl) (fun v => World.grownBy.refl _ _) fun v22 lD => ?_
            replace b14 := blk_below b14 lD
            replace b15 := blk_below b15 lD
            replace b16 := blk_below b16 lD
            replace hM := hM.below lD
            have lD22 := lD
            clear lD
            have hat : t0 ≤ T := by omega
            have har : a0 < ps.length := by omega
            obtain ⟨AE, cE1, gF, cE, eE, cF, fF, stF⟩ := hM.entry hat har
            have hcb0 := hcb t0 a0
            have s_b14 := b14
            have s_b15 := b15
            have s_b16 := b16
            have s_hM := hM
            refine E.GJ.take1 (i := 0) rfl (by kernel_rfl) (by kernel_rfl) (by kernel_rfl) (by kernel_rfl) rfl (by kernel_rfl) (by kernel_rfl) (by intro c a d v w h; cases d <;> exact h) rfl rfl rfl (fun w' hS => (E.Runs.move rfl rfl)) ?_
            refine E.GJ.take1 (i := 1) rfl (by kernel_rfl) (by kernel_rfl) (by kernel_rfl) (by kernel_rfl) rfl (by kernel_rfl) (by kernel_rfl) (by intro c a d v w h; cases d <;> exact h) rfl rfl rfl (fun w' hS => (E.Runs.fieldAddr rfl rfl hu35 rfl (by assumption) rfl)) ?_
            refine E.GJ.take1 (i := 2) rfl (by kernel_rfl) (by kernel_rfl) (by kernel_rfl) (by kernel_rfl) rfl (by kernel_rfl) (by kernel_rfl) (by intro c a d v w h; cases d <;> exact h) rfl rfl rfl (fun w' hS => (E.Runs.load rfl rfl hu3 (by first | exact E.keeps hS (E.blkc (by assumption) rfl) (by first | exact E.nen | exact E.nes (by assumption) | exact E.nes (Ne.symm (by assumption)))))) ?_
            refine E.GJ.take1 (i := 3) rfl (by kernel_rfl) (by kernel_rfl) (by kernel_rfl) (by kernel_rfl) rfl (by kernel_rfl) (by kernel_rfl) (by intro c a d v w h; cases d <;> exact h) rfl rfl rfl (fun w' hS => (E.Runs.indexAddrA (i := t0) rfl rfl (by rw [ht0]; rfl) hu68 z22 o22 (by omega) rfl (show _ = (⟨gO, t0 * 1, none⟩ : Addr) from by rw [Go.Addr.add_mid, Nat.zero_add]))) ?_
            refine E.GJ.take1 (i := 4) rfl (by kernel_rfl) (by kernel_rfl) (by kernel_rfl) (by kernel_rfl) rfl (by kernel_rfl) (by kernel_rfl) (by intro c a d v w h; cases d <;> exact h) rfl rfl rfl (fun w' hS => (E.Runs.load1 rfl rfl hu22 rfl (E.keeps hS cE E.nen))) ?_
            refine E.GJ.take1 (i := 5) rfl (by kernel_rfl) (by kernel_rfl) (by kernel_rfl) (by kernel_rfl) rfl (by kernel_rfl) (by kernel_rfl) (by intro c a d v w h; cases d <;> exact h) rfl rfl rfl (fun w' hS => (E.Runs.fieldAddr rfl rfl hu45 rfl (by assumption) rfl)) ?_
            refine E.GJ.take1 (i := 6) rfl (by kernel_rfl) (by kernel_rfl) (by kernel_rfl) (by kernel_rfl) rfl (by kernel_rfl) (by kernel_rfl) (by intro c a d v w h; cases d <;> exact h) rfl rfl rfl (fun w' hS => (E.Runs.load rfl rfl hu3 (by first | exact E.keeps hS (E.blkc (by assumption) rfl) (by first | exact E.nen | exact E.nes (by assumption) | exact E.nes (Ne.symm (by assumption)))))) ?_
            refine E.GJ.take1 (i := 7) rfl (by kernel_rfl) (by kernel_rfl) (by kernel_rfl) (by kernel_rfl) rfl (by kernel_rfl) (by kernel_rfl) (by intro c a d v w h; cases d <;> exact h) rfl rfl rfl (fun w' hS => (E.Runs.indexAddrA (i := a0) rfl rfl (by first | rfl | rw [ha0]; rfl) hu22 z3 o3 (by omega) eE (show _ = (⟨gF, a0 * 1, none⟩ : Addr) from by rw [Go.Addr.add_mid, Nat.zero_add]))) ?_
            refine E.GJ.take1 (i := 8) rfl (by kernel_rfl) (by kernel_rfl) (by kernel_rfl) (by kernel_rfl) rfl (by kernel_rfl) (by kernel_rfl) (by intro c a d v w h; cases d <;> exact h) rfl rfl rfl (fun w' hS => (E.Runs.load rfl rfl hu3 (E.keeps hS cF E.nen))) ?_
            refine E.GJ.take1 (i := 9) rfl (by kernel_rfl) (by kernel_rfl) (by kernel_rfl) (by kernel_rfl) rfl (by kernel_rfl) (by kernel_rfl) (by intro c a d v w h; cases d <;> exact h) rfl rfl rfl (fun w' hS => (E.Runs.fieldAddr rfl rfl hu35 rfl (by assumption) rfl)) ?_
            refine E.GJ.take1 (i := 10) rfl (by kernel_rfl) (by kernel_rfl) (by kernel_rfl) (by kernel_rfl) rfl (by kernel_rfl) (by kernel_rfl) (by intro c a d v w h; cases d <;> exact h) rfl rfl rfl (fun w' hS => (E.Runs.load rfl rfl hu3 (by first | exact E.keeps hS (E.blkc (by assumption) rfl) (by first | exact E.nen | exact E.nes (by assumption) | exact E.nes (Ne.symm (by assumption)))))) ?_
            refine E.GJ.take1 (i := 11) rfl (by kernel_rfl) (by kernel_rfl) (by kernel_rfl) (by kernel_rfl) rfl (by kernel_rfl) (by kernel_rfl) (by intro c a d v w h; cases d <;> exact h) rfl rfl rfl (fun w' hS => (E.Runs.sub rfl rfl rfl (IntWalk.i64_in _ (by omega)))) ?_
            refine E.GJ.take1 (i := 12) rfl (by kernel_rfl) (by kernel_rfl) (by kernel_rfl) (by kernel_rfl) rfl (by kernel_rfl) (by kernel_rfl) (by intro c a d v w h; cases d <;> exact h) rfl rfl rfl (fun w' hS => (E.Runs.indexAddrA (i := a0) rfl rfl (by first | rfl | rw [ha0]; rfl) hu22 z3 o3 (by omega) eE (show _ = (⟨gF, a0 * 1, none⟩ : Addr) from by rw [Go.Addr.add_mid, Nat.zero_add]))) ?_
            refine E.GJ.one (i := 13) (by kernel_rfl) (E.OJ.sn rfl rfl rfl (E.ST.storeN rfl z3 o3 rfl rfl cF fF ⟨(E.SJ.behind (by kernel_rfl)).mpr trivial, ?_⟩))
            obtain ⟨w22, hw22, hM22, C22⟩ := stF ((chM qs (l.take i)) t0 a0 - x.f2)
            rw [← hw22]
            clear hM stF
            have hM := hM22
            clear hM22
            replace b14 := C22 _ _ _ _ b14 (by decide) (by decide)
            replace b15 := C22 _ _ _ _ b15 (by decide) (by decide)
            replace b16 := C22 _ _ _ _ b16 (by decide) (by decide)
            refine E.GJ.done (by kernel_rfl) ?_
            refine E.QG.code ?_
            refine E.CG.seq ?_
            refine E.CG.list ?_
            refine E.GL.run rfl rfl rfl (E.Runs.fieldAddr rfl rfl hu45 rfl (by assumption) rfl) ?_
            refine E.GL.run rfl rfl rfl (E.Runs.load rfl rfl hu3 (by first | assumption | exact E.blkc (by assumption) rfl)) ?_
            refine E.GL.cmp rfl rfl rfl (fun _ h => (E.Runs.eql rfl rfl rfl h)) (fun h96 => ?_) (fun h96 => ?_)
            · have hof : outF qs x = x.f2 := by unfold outF; rw [hqu, if_pos h96]
              rw [ch_out hx hqu ht0 ha0 h96] at hM
              refine E.GL.done ?_
              refine E.QG.code ?_
              refine E.CG.cond_t rfl ?_
              refine E.CG.list ?_
              refine E.GL.run rfl rfl rfl (E.Runs.move rfl rfl) ?_
              refine E.GL.run rfl rfl rfl (E.Runs.fieldAddr rfl rfl hu35 rfl (by assumption) rfl) ?_
              refine E.GL.run rfl rfl rfl (E.Runs.load rfl rfl hu3 (by first | assumption | exact E.blkc (by assumption) rfl)) ?_
              refine E.GL.run rfl rfl rfl (E.Runs.add rfl rfl rfl (IntWalk.i64_in _ (by omega))) ?_
              refine E.GL.run rfl rfl rfl (E.Runs.assign rfl rfl) ?_
              refine E.GL.done ?_
              refine E.QG.block_normal ?_
              refine E.QG.code ?_
              refine E.CG.list ?_
              refine E.GL.run rfl rfl rfl (E.Runs.add rfl rfl rfl (IntWalk.i64_in _ (by omega))) ?_
              refine E.GL.run rfl rfl rfl (E.Runs.move rfl rfl) ?_
              refine E.GL.done ?_
              exact E.QG.round (i + 1) (E.subc rfl (E.subc rfl (E.subc rfl (E.subc rfl (E.subc rfl (E.subc (by unfold outM; rw [hst, hof]; first | rfl | (rw [Int.add_zero]; rfl) | fail) (E.subc rfl (E.subc rfl (E.subc rfl E.subn))))))))) ⟨by omega, (by first | exact hM | (rw [ch_in hx hqu ht0 ha0 hb0 ht1] at hM; exact hM) | fail), all_more2 hmv hx ⟨hmo, by rw [hqu]; omega⟩⟩ (by omega)
            · have hof : outF qs x = 0 := by unfold outF; rw [hqu, if_neg h96]
              refine E.GL.done ?_
              refine E.QG.code ?_
              refine E.CG.cond_f rfl ?_
              obtain ⟨b0, hb0⟩ : ∃ u : Nat, (u : Int) = q.f1 := ⟨q.f1.toNat, by omega⟩
              obtain ⟨t1, ht1⟩ : ∃ u : Nat, (u : Int) = x.f0 + q.f3 := ⟨(x.f0 + q.f3).toNat, by omega⟩
              refine E.CG.heldJ 16 (fun v W => v.grownBy W (none)) (fun _ _ => True) (by kernel_rfl) (by kernel_rfl) (fun v => World.grownBy.refl _ _) fun v25 lD => ?_
              replace b14 := blk_below b14 lD
              replace b15 := blk_below b15 lD
              replace b16 := blk_below b16 lD
              replace hM := hM.below lD
              have lD25 := lD
              clear lD
              have hat : t1 ≤ T := by omega
              have har : b0 < ps.length := by omega
              obtain ⟨AE, cE1, gF, cE, eE, cF, fF, stF⟩ := hM.entry hat har
              have hcb1 : -40000000 ≤ setF (chM qs (l.take i)) t0 a0 ((chM qs (l.take i)) t0 a0 - x.f2) t1 b0 ∧ setF (chM qs (l.take i)) t0 a0 ((chM qs (l.take i)) t0 a0 - x.f2) t1 b0 ≤ 40000000 := by
                unfold setF
                have k1 := hcb t0 a0
                have k2 := hcb t1 b0
                split <;> omega
              have s_b14 := b14
              have s_b15 := b15
              have s_b16 := b16
              have s_hM := hM
              refine E.GJ.take1 (i := 0) rfl (by kernel_rfl) (by kernel_rfl) (by kernel_rfl) (by kernel_rfl) rfl (by kernel_rfl) (by kernel_rfl) (by intro c a d v w h; cases d <;> exact h) rfl rfl rfl (fun w' hS => (E.Runs.move rfl rfl)) ?_
              refine E.GJ.take1 (i := 1) rfl (by kernel_rfl) (by kernel_rfl) (by kernel_rfl) (by kernel_rfl) rfl (by kernel_rfl) (by kernel_rfl) (by intro c a d v w h; cases d <;> exact h) rfl rfl rfl (fun w' hS => (E.Runs.fieldAddr rfl rfl hu35 rfl (by assumption) rfl)) ?_
              refine E.GJ.take1 (i := 2) rfl (by kernel_rfl) (by kernel_rfl) (by kernel_rfl) (by kernel_rfl) rfl (by kernel_rfl) (by kernel_rfl) (by intro c a d v w h; cases d <;> exact h) rfl rfl rfl (fun w' hS => (E.Runs.load rfl rfl hu3 (by first | exact E.keeps hS (E.blkc (by assumption) rfl) (by first | exact E.nen | exact E.nes (by assumption) | exact E.nes (Ne.symm (by assumption)))))) ?_
              refine E.GJ.take1 (i := 3) rfl (by kernel_rfl) (by kernel_rfl) (by kernel_rfl) (by kernel_rfl) rfl (by kernel_rfl) (by kernel_rfl) (by intro c a d v w h; cases d <;> exact h) rfl rfl rfl (fun w' hS => (E.Runs.fieldAddr rfl rfl hu45 rfl (by assumption) rfl)) ?_
              refine E.GJ.take1 (i := 4) rfl (by kernel_rfl) (by kernel_rfl) (by kernel_rfl) (by kernel_rfl) rfl (by kernel_rfl) (by kernel_rfl) (by intro c a d v w h; cases d <;> exact h) rfl rfl rfl (fun w' hS => (E.Runs.load rfl rfl hu3 (by first | exact E.keeps hS (E.blkc (by assumption) rfl) (by first | exact E.nen | exact E.nes (by assumption) | exact E.nes (Ne.symm (by assumption)))))) ?_
              refine E.GJ.take1 (i := 5) rfl (by kernel_rfl) (by kernel_rfl) (by kernel_rfl) (by kernel_rfl) rfl (by kernel_rfl) (by kernel_rfl) (by intro c a d v w h; cases d <;> exact h) rfl rfl rfl (fun w' hS => (E.Runs.add rfl rfl rfl (IntWalk.i64_in _ (by omega)))) ?_
              refine E.GJ.take1 (i := 6) rfl (by kernel_rfl) (by kernel_rfl) (by kernel_rfl) (by kernel_rfl) rfl (by kernel_rfl) (by kernel_rfl) (by intro c a d v w h; cases d <;> exact h) rfl rfl rfl (fun w' hS => (E.Runs.indexAddrA (i := t1) rfl rfl (by rw [ht1]; rfl) hu68 z22 o22 (by omega) rfl (show _ = (⟨gO, t1 * 1, none⟩ : Addr) from by rw [Go.Addr.add_mid, Nat.zero_add]))) ?_
              refine E.GJ.take1 (i := 7) rfl (by kernel_rfl) (by kernel_rfl) (by kernel_rfl) (by kernel_rfl) rfl (by kernel_rfl) (by kernel_rfl) (by intro c a d v w h; cases d <;> exact h) rfl rfl rfl (fun w' hS => (E.Runs.load1 rfl rfl hu22 rfl (E.keeps hS cE E.nen))) ?_
              refine E.GJ.take1 (i := 8) rfl (by kernel_rfl) (by kernel_rfl) (by kernel_rfl) (by kernel_rfl) rfl (by kernel_rfl) (by kernel_rfl) (by intro c a d v w h; cases d <;> exact h) rfl rfl rfl (fun w' hS => (E.Runs.fieldAddr rfl rfl hu45 rfl (by assumption) rfl)) ?_
              refine E.GJ.take1 (i := 9) rfl (by kernel_rfl) (by kernel_rfl) (by kernel_rfl) (by kernel_rfl) rfl (by kernel_rfl) (by kernel_rfl) (by intro c a d v w h; cases d <;> exact h) rfl rfl rfl (fun w' hS => (E.Runs.load rfl rfl hu3 (by first | exact E.keeps hS (E.blkc (by assumption) rfl) (by first | exact E.nen | exact E.nes (by assumption) | exact E.nes (Ne.symm (by assumption)))))) ?_
              refine E.GJ.take1 (i := 10) rfl (by kernel_rfl) (by kernel_rfl) (by kernel_rfl) (by kernel_rfl) rfl (by kernel_rfl) (by kernel_rfl) (by intro c a d v w h; cases d <;> exact h) rfl rfl rfl (fun w' hS => (E.Runs.indexAddrA (i := b0) rfl rfl (by first | rfl | rw [hb0]; rfl) hu22 z3 o3 (by omega) eE (show _ = (⟨gF, b0 * 1, none⟩ : Addr) from by rw [Go.Addr.add_mid, Nat.zero_add]))) ?_
              refine E.GJ.take1 (i := 11) rfl (by kernel_rfl) (by kernel_rfl) (by kernel_rfl) (by kernel_rfl) rfl (by kernel_rfl) (by kernel_rfl) (by intro c a d v w h; cases d <;> exact h) rfl rfl rfl (fun w' hS => (E.Runs.load rfl rfl hu3 (E.keeps hS cF E.nen))) ?_
              refine E.GJ.take1 (i := 12) rfl (by kernel_rfl) (by kernel_rfl) (by kernel_rfl) (by kernel_rfl) rfl (by kernel_rfl) (by kernel_rfl) (by intro c a d v w h; cases d <;> exact h) rfl rfl rfl (fun w' hS => (E.Runs.fieldAddr rfl rfl hu35 rfl (by assumption) rfl)) ?_
              refine E.GJ.take1 (i := 13) rfl (by kernel_rfl) (by kernel_rfl) (by kernel_rfl) (by kernel_rfl) rfl (by kernel_rfl) (by kernel_rfl) (by intro c a d v w h; cases d <;> exact h) rfl rfl rfl (fun w' hS => (E.Runs.load rfl rfl hu3 (by first | exact E.keeps hS (E.blkc (by assumption) rfl) (by first | exact E.nen | exact E.nes (by assumption) | exact E.nes (Ne.symm (by assumption)))))) ?_
              refine E.GJ.take1 (i := 14) rfl (by kernel_rfl) (by kernel_rfl) (by kernel_rfl) (by kernel_rfl) rfl (by kernel_rfl) (by kernel_rfl) (by intro c a d v w h; cases d <;> exact h) rfl rfl rfl (fun w' hS => (E.Runs.add rfl rfl rfl (IntWalk.i64_in _ (by omega)))) ?_
              refine E.GJ.take1 (i := 15) rfl (by kernel_rfl) (by kernel_rfl) (by kernel_rfl) (by kernel_rfl) rfl (by kernel_rfl) (by kernel_rfl) (by intro c a d v w h; cases d <;> exact h) rfl rfl rfl (fun w' hS => (E.Runs.indexAddrA (i := b0) rfl rfl (by first | rfl | rw [hb0]; rfl) hu22 z3 o3 (by omega) eE (show _ = (⟨gF, b0 * 1, none⟩ : Addr) from by rw [Go.Addr.add_mid, Nat.zero_add]))) ?_
              refine E.GJ.one (i := 16) (by kernel_rfl) (E.OJ.sn rfl rfl rfl (E.ST.storeN rfl z3 o3 rfl rfl cF fF ⟨(E.SJ.behind (by kernel_rfl)).mpr trivial, ?_⟩))
              obtain ⟨w25, hw25, hM25, C25⟩ := stF (setF (chM qs (l.take i)) t0 a0 ((chM qs (l.take i)) t0 a0 - x.f2) t1 b0 + x.f2)
              rw [← hw25]
              clear hM stF
              have hM := hM25
              clear hM25
              replace b14 := C25 _ _ _ _ b14 (by decide) (by decide)
              replace b15 := C25 _ _ _ _ b15 (by decide) (by decide)
              replace b16 := C25 _ _ _ _ b16 (by decide) (by decide)
              refine E.GJ.done (by kernel_rfl) ?_
              refine E.QG.block_normal ?_
              refine E.QG.code ?_
              refine E.CG.list ?_
              refine E.GL.run rfl rfl rfl (E.Runs.add rfl rfl rfl (IntWalk.i64_in _ (by omega))) ?_
              refine E.GL.run rfl rfl rfl (E.Runs.move rfl rfl) ?_
              refine E.GL.done ?_
              exact E.QG.round (i + 1) (E.subc rfl (E.subc rfl (E.subc rfl (E.subc rfl (E.subc rfl (E.subc (by unfold outM; rw [hst, hof]; first | rfl | (rw [Int.add_zero]; rfl) | fail) (E.subc rfl (E.subc rfl (E.subc rfl E.subn))))))))) ⟨by omega, (by first | exact hM | (rw [ch_in hx hqu ht0 ha0 hb0 ht1] at hM; exact hM) | fail), all_more2 hmv hx ⟨hmo, by rw [hqu]; omega⟩⟩ (by omega)
        · refine E.GL.st rfl rfl rfl (E.ST.call rfl ent46 (E.evc rfl (E.evc rfl (E.evc rfl E.evn))) ((isMove_calls ps qs A B c d T x false hH (iff_of_false Bool.false_ne_true h54) _ (Kd.C_below hQ hM.bel) hT).mono ?_))
          rintro e w54 ⟨rfl, l54⟩
          refine ⟨_, rfl, ?_⟩
          replace b14 := blk_below b14 l54
          replace hM := hM.below l54
          refine E.GL.run rfl rfl rfl (E.Runs.not rfl rfl) ?_
          refine E.GL.done ?_
          refine E.QG.code ?_
          refine E.CG.cond_t rfl ?_
          refine E.CG.seq ?_
          refine E.CG.list ?_
          refine E.GL.run rfl rfl rfl (E.Runs.assign rfl rfl) ?_
          refine E.GL.run rfl rfl rfl (E.Runs.assign rfl rfl) ?_
          refine E.GL.done ?_
          refine E.QG.code ?_
          refine E.CG.ret ?_
          refine E.QG.pass_ret ?_
          refine E.QG.block_ret ?_
          refine E.QG.pass_ret ?_
          refine E.QG.pass_ret ?_
          refine E.QG.block_ret ?_
          refine E.QG.pass_ret ?_
          exact E.QG.result2 rfl rfl rfl ⟨_, _, rfl, ⟨fun k => absurd hE k, fun _ => ⟨fun k => by rw [Int.toNat_natCast] at k; exact absurd k (fun k => by obtain ⟨⟨q1, q2, q3, q4, q5⟩, q6⟩ := k.mv i x hx; have hub := (usedM_b (fun k hk x hx => (hmv k hk x hx).1) x.f1 x.f0 (n := i)).1; have hst := sumM_step (h := usedF x.f1 x.f0) hx; have huf : usedF x.f1 x.f0 x = x.f2 := if_pos ⟨rfl, rfl⟩; exact h54 ⟨q2, q1, q3, q5, by unfold usedM at hub q6; omega⟩), fun _ => ⟨rfl, rfl⟩⟩⟩, hM.bel⟩
      · refine E.GL.done ?_
        refine E.QG.code ?_
        refine E.CG.seq ?_
        refine E.CG.cond_f rfl ?_
        refine E.CG.exit ?_
        refine E.QG.pass_exit ?_
        refine E.QG.pass_exit ?_
        refine E.QG.block_here ?_
        refine E.QG.code ?_
        refine E.CG.seq ?_
        have hM0 := hM
        have hil : i = l.length := by omega
        subst hil
        rw [List.take_length] at hM hM0
        refine E.CG.list ?_
        refine E.GL.run rfl rfl rfl (E.Runs.fieldAddr rfl rfl hu25 rfl (by assumption) rfl) ?_
        refine E.GL.run rfl rfl rfl (E.Runs.load1 rfl rfl hu22 rfl (E.blkc hM.b3 rfl)) ?_
        refine E.GL.st rfl rfl rfl (E.ST.call rfl ent47 (E.evc rfl E.evn) ((clone47 ps A c _ (Kd.C_below hP hM.bel) hn1).mono ?_))
        rintro e w120 ⟨v120, rfl, R120, l120⟩
        refine ⟨_, rfl, ?_⟩
        replace hM := hM.below l120
        have L13 := l120
        obtain ⟨A17, c17, hv120⟩ := Kd.R_slice R120
        subst hv120
        clear hM
        have hM := hM0
        refine E.GL.run rfl rfl rfl (E.Runs.assign rfl rfl) ?_
        refine E.GL.done ?_
        refine E.QG.code ?_
        refine E.CG.seq ?_
        refine E.CG.seq ?_
        refine E.CG.list ?_
        refine E.GL.run rfl rfl rfl (E.Runs.move rfl rfl) ?_
        refine E.GL.run rfl rfl rfl (E.Runs.len rfl rfl hu68) ?_
        refine E.GL.run rfl rfl rfl (E.Runs.move rfl rfl) ?_
        refine E.GL.done ?_
        refine E.QG.code ?_
        refine E.CG.block ?_
        have hall : ∀ x ∈ l, MvOk qs T x := fun x hx => by obtain ⟨k, hk⟩ := List.mem_iff_getElem?.mp hx; exact (hmv k (by have := (List.getElem?_eq_some_iff.1 hk).1; omega) x hk).1
        have hcb : ∀ m r, _ := fun m r => by have := chM_b (qs := qs) (T := T) (l := l) (n := l.length) (fun k hk x hx => (hmv k hk x hx).1) (by omega) m r; rw [List.take_length] at this; exact this
        have s29_L13 := L13
        refine E.CG.loop (fun (m : Nat) => [(9, .slice (some ⟨gO, 0, none⟩) (T + 1) (T + 1)), (12, .int .i64 (outM qs (l.take l.length))), (17, .slice A17 ps.length c17), (121, .slice (some ⟨gO, 0, none⟩) (T + 1) (T + 1)), (122, .int .i64 ((T + 1 : Nat) : Int)), (123, .int .i64 m)]) (fun m w' => m ≤ T + 1 ∧ Kd.R kI 3 w' w13.heap.size (fun _ => True) (.slice A17 ps.length c17) (thR ps (chM qs l) ps.length m 0) ∧ Below w13.heap.size w13 w' ∧ ∀ a, a < m → ∀ r, r < ps.length → 0 ≤ thA ps (chM qs l) a (r + 1) r) (fun m => T + 1 - m) 0 (E.subc rfl (E.subc rfl (E.subc rfl (E.subc rfl (E.subc rfl (E.subc rfl E.subn)))))) ⟨Nat.zero_le _, by rw [thR_first]; exact R120, L13, fun a ha => by omega⟩ ?_
        rintro m w29 ⟨hm, RT, L13, hth⟩
        refine E.CG.seq ?_
        refine E.CG.list ?_
        refine E.GL.cmp rfl rfl rfl (fun _ h => (E.Runs.lss rfl rfl rfl h)) (fun h124 => ?_) (fun h124 => ?_)
        · have hmT : m ≤ T := by omega
          obtain ⟨AG, cG1, hvm, RG⟩ := hM.rows.at_ (mat_row (chM qs l) hmT)
          rw [matR_len] at hvm
          have RG2 := RG
          rw [matR_len] at RG2
          refine E.GL.done ?_
          refine E.QG.code ?_
          refine E.CG.seq ?_
          refine E.CG.cond_t rfl ?_
          refine E.CG.skip ?_
          refine E.QG.code ?_
          refine E.CG.seq ?_
          refine E.CG.block ?_
          refine E.CG.seq ?_
          refine E.CG.list ?_
          refine E.GL.run rfl rfl rfl (E.Runs.indexAddrA (i := m) rfl rfl rfl hu68 z22 o22 (by omega) rfl (show _ = (⟨gO, m * 1, none⟩ : Addr) from by rw [Go.Addr.add_mid, Nat.zero_add])) ?_
          refine E.GL.run rfl rfl rfl (E.Runs.load1 rfl rfl hu22 rfl (pw_cell_below L13 (hM.rows.cell hvm))) ?_
          refine E.GL.run rfl rfl rfl (E.Runs.assign rfl rfl) ?_
          refine E.GL.done ?_
          refine E.QG.code ?_
          refine E.CG.seq ?_
          refine E.CG.list ?_
          refine E.GL.run rfl rfl rfl (E.Runs.move rfl rfl) ?_
          refine E.GL.run rfl rfl rfl (E.Runs.len rfl rfl hu22) ?_
          refine E.GL.run rfl rfl rfl (E.Runs.move rfl rfl) ?_
          refine E.GL.done ?_
          refine E.QG.code ?_
          refine E.CG.block ?_
          have s32_L13 := L13
          refine E.CG.loop (fun (r : Nat) => [(9, .slice (some ⟨gO, 0, none⟩) (T + 1) (T + 1)), (12, .int .i64 (outM qs (l.take l.length))), (17, .slice A17 ps.length c17), (121, .slice (some ⟨gO, 0, none⟩) (T + 1) (T + 1)), (122, .int .i64 ((T + 1 : Nat) : Int)), (123, .int .i64 m), (127, .slice AG ps.length cG1), (128, .int .i64 ps.length), (129, .int .i64 r)]) (fun r w' => r ≤ ps.length ∧ Kd.R kI 3 w' w13.heap.size (fun _ => True) (.slice A17 ps.length c17) (thR ps (chM qs l) ps.length m r) ∧ Below w13.heap.size w13 w' ∧ ∀ a, a < r → 0 ≤ thA ps (chM qs l) m (a + 1) a) (fun r => ps.length - r) 0 (E.subc rfl (E.subc rfl (E.subc rfl (E.subc rfl (E.subc rfl (E.subc rfl (E.subc rfl (E.subc rfl (E.subc rfl E.subn))))))))) ⟨Nat.zero_le _, RT, L13, fun a ha => by omega⟩ ?_
          rintro r w32 ⟨hr, RT, L13, hth2⟩
          refine E.CG.seq ?_
          refine E.CG.list ?_
          refine E.GL.cmp rfl rfl rfl (fun _ h => (E.Runs.lss rfl rfl rfl h)) (fun h130 => ?_) (fun h130 => ?_)
          · have hrl : r < ps.length := by omega
            obtain ⟨gG, eG, _, cG, _⟩ := rowI_at RG2 (matR_get (chM qs l) hrl)
            have hk1 := hcb m r
            have hk2 := sumN_b2 (fun a => hcb a r) m
            have hp1 := hH.p _ (getD_mem (z := 0) hrl)
            have hk3 : thA ps (chM qs l) m r r = ps.getD r 0 + sumN (fun a => (chM qs l) a r) m := by unfold thA; rw [if_neg (by omega), Int.add_zero]
            have hk4 := thA_after ps (chM qs l) m r
            rw [sumN] at hk4
            refine E.GL.done ?_
            refine E.QG.code ?_
            refine E.CG.seq ?_
            refine E.CG.cond_t rfl ?_
            refine E.CG.skip ?_
            refine E.QG.code ?_
            refine E.CG.seq ?_
            refine E.CG.block ?_
            refine E.CG.seq ?_
            refine E.CG.list ?_
            refine E.GL.run rfl rfl rfl (E.Runs.move rfl rfl) ?_
            refine E.GL.run rfl rfl rfl (E.Runs.indexAddrA (i := r) rfl rfl rfl hu22 z3 o3 (by omega) eG (show _ = (⟨gG, r * 1, none⟩ : Addr) from by rw [Go.Addr.add_mid, Nat.zero_add])) ?_
            refine E.GL.run rfl rfl rfl (E.Runs.load rfl rfl hu3 (pw_cell_below L13 cG)) ?_
            refine E.GL.run rfl rfl rfl (E.Runs.assign rfl rfl) ?_
            refine E.GL.run rfl rfl rfl (E.Runs.assign rfl rfl) ?_
            refine E.GL.done ?_
            refine E.QG.code ?_
            refine E.CG.seq ?_
            obtain ⟨gT, eT, hgT, cT, fT, ⟨_, bT⟩, stT⟩ := rowI_at RT (thR_get hrl)
            refine E.CG.list ?_
            refine E.GL.run rfl rfl rfl (E.Runs.move rfl rfl) ?_
            refine E.GL.run rfl rfl rfl (E.Runs.move rfl rfl) ?_
            refine E.GL.run rfl rfl rfl (E.Runs.indexAddrA (i := r) rfl rfl rfl hu22 z3 o3 (by omega) eT (show _ = (⟨gT, r * 1, none⟩ : Addr) from by rw [Go.Addr.add_mid, Nat.zero_add])) ?_
            refine E.GL.run rfl rfl rfl (E.Runs.load rfl rfl hu3 cT) ?_
            refine E.GL.run rfl rfl rfl (E.Runs.move rfl rfl) ?_
            refine E.GL.run rfl rfl rfl (E.Runs.add rfl rfl rfl (IntWalk.i64_in _ (by omega))) ?_
            refine E.GL.run rfl rfl rfl (E.Runs.indexAddrA (i := r) rfl rfl rfl hu22 z3 o3 (by omega) eT (show _ = (⟨gT, r * 1, none⟩ : Addr) from by rw [Go.Addr.add_mid, Nat.zero_add])) ?_
            refine E.GL.sn rfl rfl (E.ST.storeN rfl z3 o3 rfl rfl cT fT ?_)
            obtain ⟨w34, hw34, RN, g34⟩ := stT (thA ps (chM qs l) m r r + (chM qs l) m r)
            rw [← hw34]
            rw [thR_set _ _ _ (show r < ps.length by omega)] at RN
            replace L13 := E.below_own L13 hgT g34
            clear RT stT g34
            have RT := RN
            clear RN
            refine E.GL.done ?_
            refine E.QG.code ?_
            refine E.CG.seq ?_
            obtain ⟨gT2, eT2, _, cT2, _⟩ := rowI_at RT (thR_get hrl)
            refine E.CG.list ?_
            refine E.GL.run rfl rfl rfl (E.Runs.move rfl rfl) ?_
            refine E.GL.run rfl rfl rfl (E.Runs.move rfl rfl) ?_
            refine E.GL.run rfl rfl rfl (E.Runs.indexAddrA (i := r) rfl rfl rfl hu22 z3 o3 (by omega) eT2 (show _ = (⟨gT2, r * 1, none⟩ : Addr) from by rw [Go.Addr.add_mid, Nat.zero_add])) ?_
            refine E.GL.run rfl rfl rfl (E.Runs.load rfl rfl hu3 cT2) ?_
            refine E.GL.cmp rfl rfl rfl (fun _ h => (E.Runs.lss rfl rfl rfl h)) (fun h145 => ?_) (fun h145 => ?_)
            · refine E.GL.done ?_
              refine E.QG.code ?_
              refine E.CG.cond_t rfl ?_
              refine E.CG.seq ?_
              refine E.CG.list ?_
              refine E.GL.run rfl rfl rfl (E.Runs.assign rfl rfl) ?_
              refine E.GL.run rfl rfl rfl (E.Runs.assign rfl rfl) ?_
              refine E.GL.done ?_
              refine E.QG.code ?_
              refine E.CG.ret ?_
              refine E.QG.block_ret ?_
              refine E.QG.pass_ret ?_
              refine E.QG.pass_ret ?_
              refine E.QG.block_ret ?_
              refine E.QG.block_ret ?_
              refine E.QG.pass_ret ?_
              refine E.QG.pass_ret ?_
              refine E.QG.block_ret ?_
              refine E.QG.pass_ret ?_
              exact E.QG.result2 rfl rfl rfl ⟨_, _, rfl, ⟨fun k => absurd hE k, fun _ => ⟨fun k => by rw [Int.toNat_natCast] at k; exact absurd k (fun k => by have := k.th r m hrl hmT; rw [← ch_th hH hall r m, ← thA_after] at this; omega), fun _ => ⟨rfl, rfl⟩⟩⟩, below_step' hM.bel hM.size L13⟩
            · refine E.GL.done ?_
              refine E.QG.code ?_
              refine E.CG.cond_f rfl ?_
              refine E.CG.skip ?_
              refine E.QG.block_normal ?_
              refine E.QG.code ?_
              refine E.CG.list ?_
              refine E.GL.run rfl rfl rfl (E.Runs.add rfl rfl rfl (IntWalk.i64_in _ (by omega))) ?_
              refine E.GL.run rfl rfl rfl (E.Runs.move rfl rfl) ?_
              refine E.GL.done ?_
              exact E.QG.round (r + 1) (E.subc rfl (E.subc rfl (E.subc rfl (E.subc rfl (E.subc rfl (E.subc rfl (E.subc rfl (E.subc rfl (E.subc rfl E.subn))))))))) ⟨by omega, RT, L13, lt_succ_all hth2 (by omega)⟩ (by omega)
          · refine E.GL.done ?_
            refine E.QG.code ?_
            refine E.CG.seq ?_
            refine E.CG.cond_f rfl ?_
            refine E.CG.exit ?_
            refine E.QG.pass_exit ?_
            refine E.QG.pass_exit ?_
            refine E.QG.block_here ?_
            refine E.QG.block_normal ?_
            refine E.QG.code ?_
            refine E.CG.list ?_
            refine E.GL.run rfl rfl rfl (E.Runs.add rfl rfl rfl (IntWalk.i64_in _ (by omega))) ?_
            refine E.GL.run rfl rfl rfl (E.Runs.move rfl rfl) ?_
            refine E.GL.done ?_
            exact E.QG.round (m + 1) (E.subc rfl (E.subc rfl (E.subc rfl (E.subc rfl (E.subc rfl (E.subc rfl E.subn)))))) ⟨by omega, by rw [← thR_next _ _ m (show ps.length ≤ r by omega)]; exact RT, L13, lt_succ_all hth (fun a ha => hth2 a (by omega))⟩ (by omega)
        · refine E.GL.done ?_
          refine E.QG.code ?_
          refine E.CG.seq ?_
          refine E.CG.cond_f rfl ?_
          refine E.CG.exit ?_
          refine E.QG.pass_exit ?_
          refine E.QG.pass_exit ?_
          refine E.QG.block_here ?_
          refine E.QG.code ?_
          refine E.CG.seq ?_
          refine E.CG.list ?_
          refine E.GL.run rfl rfl rfl (E.Runs.move rfl rfl) ?_
          refine E.GL.run rfl rfl rfl (E.Runs.assign rfl rfl) ?_
          refine E.GL.run rfl rfl rfl (E.Runs.assign rfl rfl) ?_
          refine E.GL.done ?_
          refine E.QG.code ?_
          refine E.CG.ret ?_
          exact E.QG.result2 rfl rfl rfl ⟨_, _, rfl, ⟨fun k => absurd hE k, fun _ => ⟨fun _ => ⟨by rw [List.take_length], rfl⟩, fun k => absurd ⟨fun a x hx => hmv a (by have := (List.getElem?_eq_some_iff.1 hx).1; omega) x hx, fun a m2 ha hm2 => by rw [Int.toNat_natCast] at hm2; rw [← ch_th hH hall a m2, ← thA_after]; exact hth m2 (by omega) a ha⟩ k⟩⟩, below_step' hM.bel hM.size L13⟩

end Go.Proofs.Ytmnjlnkfihklgaa.T
namespace Go.Proofs.Ytmnjlnkfihklgaa.T
open Go.RowKit Go.Proofs.YtmnjlnkfihklgaaW.PrintWords Go.Proofs.YtmnjlnkfihklgaaW.PrintMore
open Go.Proofs.Ytmnjlnkfihklgaa.P
set_option linter.unusedVariables false
set_option linter.unusedSimpArgs false

end Go.Proofs.Ytmnjlnkfihklgaa.T
namespace Go.Proofs.Ytmnjlnkfihklgaa.T
open Go.RowKit Go.Proofs.YtmnjlnkfihklgaaW.PrintWords Go.Proofs.YtmnjlnkfihklgaaW.PrintMore
open Go.Proofs.Ytmnjlnkfihklgaa.P
set_option linter.unusedVariables false
set_option linter.unusedSimpArgs false

/-- The reference's node of a room in a minute; of one of ours. -/
def rN (R r m : Nat) : Nat := 1 + m * R + r
def lastN (R T : Nat) : Nat := 1 + R * (T + 1)
def xN (R T v : Nat) : Nat := if v = 0 then 0 else if v = 1 then lastN R T else rN R ((v - 2) / (T + 1)) ((v - 2) % (T + 1))
theorem xN_zero (R T : Nat) : xN R T 0 = 0 := rfl
theorem xN_one (R T : Nat) : xN R T 1 = lastN R T := rfl
theorem xN_node {R T r m : Nat} (hm : m ≤ T) : xN R T (nodeN T r m) = rN R r m := by
  have h2 := nodeN_two T r m
  unfold xN
  rw [if_neg (by omega), if_neg (by omega), (node_parts hm).1, (node_parts hm).2]
/-- The reference's edges, and its ways. -/
def xE (ps : List Int) (T : Nat) (e : Ed) : Ed := ⟨xN ps.length T e.fr, xN ps.length T e.td, if e.fr ≠ 0 ∧ e.up = -1 then allP ps else e.cap, e.up, e.um⟩
def edX (ps : List Int) (qs : List S45) (T : Nat) : List Ed := (edH ps qs T).map (xE ps T)
end Go.Proofs.Ytmnjlnkfihklgaa.T
namespace Go.Proofs.Ytmnjlnkfihklgaa.T
open Go.RowKit Go.Proofs.YtmnjlnkfihklgaaW.PrintWords Go.Proofs.YtmnjlnkfihklgaaW.PrintMore
open Go.Proofs.Ytmnjlnkfihklgaa.P
set_option linter.unusedVariables false
/-- All ways lie between nodes that there are. -/
def WsOk (ls : List S95) (n : Nat) : Prop := ∀ x ∈ ls, 0 ≤ x.f0 ∧ x.f0 < n ∧ 0 ≤ x.f1 ∧ x.f1 < n
/-- Where the search stands. -/
structure Pb (ls : List S95) (n : Nat) (V : List Nat) (bl : List Int) : Prop where
  nd : V.Nodup
  lt : ∀ x ∈ V, x < n
  v0 : V[0]? = some 0
  lb : bl.length = n
  is : ∀ v, v < n → (¬ bl[v]? = some 0 ↔ v ∈ V ∧ v ≠ 0)
  nn : ∀ x ∈ bl, 0 ≤ x
  back : ∀ (j v : Nat), V[j]? = some v → 0 < j → ∃ (j' k : Nat) (x : S95), j' < j ∧ ls[k]? = some x ∧ V[j']? = some x.f0.toNat ∧ bl[v]? = some ((k : Int) + 1) ∧ x.f1 = v ∧ 0 < x.f2
/-- Whose ways have been looked at. -/
def Dn (ls : List S95) (V : List Nat) (p : Nat) : Prop := ∀ (j v : Nat), j < p → V[j]? = some v → ∀ x ∈ ls, x.f0 = v → 0 < x.f2 → x.f1.toNat ∈ V
def Dk (ls : List S95) (V : List Nat) (u k : Nat) : Prop := ∀ (i : Nat) (x : S95), i < k → ls[i]? = some x → x.f0 = u → 0 < x.f2 → x.f1.toNat ∈ V
section
variable {ls : List S95} {n : Nat} {V : List Nat} {bl : List Int}
theorem Pb.few (h : Pb ls n V bl) : V.length ≤ n := by
  have := nodup_len (k := List.range n) h.nd (fun x hx => List.mem_range.mpr (h.lt x hx))
  simpa using this
theorem Pb.start (hn : 0 < n) : Pb ls n [0] (List.replicate n 0) := by
  refine ⟨by simp, fun x hx => ?_, rfl, by simp, fun v hv => ?_, fun x hx => ?_, fun j v hj h0 => ?_⟩
  · obtain rfl : x = 0 := by simpa using hx
    exact hn
  · rw [List.getElem?_replicate, if_pos hv]
    simp
  · rw [List.mem_replicate] at hx
    omega
  · obtain ⟨j, rfl⟩ : ∃ i, j = i + 1 := ⟨j - 1, by omega⟩
    simp at hj
theorem Pb.found {p u k t : Nat} {x : S95} (h : Pb ls n V bl) (hu : V[p]? = some u) (hx : ls[k]? = some x) (h0 : x.f0 = u) (h1 : 0 < x.f2) (ht : x.f1 = t) (htn : t < n) (ht0 : t ≠ 0) (hb : bl[t]? = some 0) : Pb ls n (V ++ [t]) (bl.set t ((k : Int) + 1)) := by
  have htV : t ∉ V := fun q => (h.is t htn).mpr ⟨q, ht0⟩ hb
  have hpl := (List.getElem?_eq_some_iff.1 hu).1
  have hl0 := (List.getElem?_eq_some_iff.1 h.v0).1
  refine ⟨nodup_snoc h.nd htV, fun y hy => ?_, ?_, by simp [h.lb], fun v hv => ?_, fun y hy => ?_, fun j v hj hj0 => ?_⟩
  · rcases List.mem_append.mp hy with q | q
    · exact h.lt y q
    · obtain rfl : y = t := by simpa using q
      exact htn
  · rw [List.getElem?_append_left (by omega)]
    exact h.v0
  · by_cases e : v = t
    · subst e
      rw [List.getElem?_set_self (by rw [h.lb]; exact htn)]
      refine iff_of_true (fun q => ?_) ⟨by simp, ht0⟩
      injection q with q
      omega
    · rw [List.getElem?_set_ne (fun q => e q.symm), h.is v hv]
      simp [e]
  · rcases List.mem_or_eq_of_mem_set hy with q | q
    · exact h.nn y q
    · omega
  · by_cases hlt : j < V.length
    · rw [List.getElem?_append_left hlt] at hj
      obtain ⟨j', k', y, q1, q2, q3, q4, q5, q6⟩ := h.back j v hj hj0
      refine ⟨j', k', y, q1, q2, ?_, ?_, q5, q6⟩
      · rw [List.getElem?_append_left (by omega)]; exact q3
      · rw [List.getElem?_set_ne (fun q => htV (by subst q; exact List.mem_of_getElem? hj))]
        exact q4
    · rw [List.getElem?_append_right (by omega)] at hj
      have hj2 := (List.getElem?_eq_some_iff.1 hj).1
      simp only [List.length_singleton] at hj2
      rw [show j - V.length = 0 by omega] at hj
      obtain rfl : t = v := by simpa using hj
      refine ⟨p, k, x, by omega, hx, ?_, ?_, ht, h1⟩
      · rw [List.getElem?_append_left hpl, hu, h0]
        simp
      · rw [List.getElem?_set_self (by rw [h.lb]; exact htn)]
theorem Dk.first (u : Nat) : Dk ls V u 0 := fun i x hi => by omega
theorem Dk.found {u k t : Nat} {x : S95} (h : Dk ls V u k) (hx : ls[k]? = some x) (ht : x.f1 = t) : Dk ls (V ++ [t]) u (k + 1) := fun i y hi hy a b => by
  by_cases e : i = k
  · subst e
    rw [hx] at hy
    cases hy
    rw [ht]
    simp
  · exact List.mem_append_left _ (h i y (by omega) hy a b)
theorem Dk.not {u k : Nat} {x : S95} (h : Dk ls V u k) (hx : ls[k]? = some x) (hn : x.f0 = u → 0 < x.f2 → x.f1.toNat ∈ V) : Dk ls V u (k + 1) := fun i y hi hy a b => by
  by_cases e : i = k
  · subst e
    rw [hx] at hy
    cases hy
    exact hn a b
  · exact h i y (by omega) hy a b
theorem Dn.next {p u k : Nat} (h : Dn ls V p) (hu : V[p]? = some u) (hk : Dk ls V u k) (hl : ls.length ≤ k) : Dn ls V (p + 1) := fun j v hj hv x hx a b => by
  by_cases e : j = p
  · subst e
    rw [hu] at hv
    cases hv
    obtain ⟨i, hi⟩ := List.mem_iff_getElem?.mp hx
    exact hk i x (by have := (List.getElem?_eq_some_iff.1 hi).1; omega) hi a b
  · exact h j v (by omega) hv x hx a b
/-- A way from the first node, its last step first. -/
def Wl (ls : List S95) (d : Nat → Nat) : Nat → List Int → Prop
  | v, [] => v = 0
  | v, i :: r => v ≠ 0 ∧ ∃ (k : Nat) (x : S95), i = k ∧ ls[k]? = some x ∧ x.f1 = v ∧ 0 < x.f2 ∧ d x.f0.toNat < d v ∧ Wl ls d x.f0.toNat r
/-- What the search returns. -/
def PathOk (ls : List S95) (last : Nat) (P : List Int) (b : Bool) : Prop :=
  (b = true → ∃ d, Wl ls d last P) ∧ (b = false → ∃ S : Nat → Prop, S 0 ∧ ¬ S last ∧ ∀ x ∈ ls, S x.f0.toNat → 0 < x.f2 → S x.f1.toNat)
/-- So much of the way is told. -/
def Wp (ls : List S95) (d : Nat → Nat) (last v : Nat) (P : List Int) : Prop := ∀ r, Wl ls d v r → Wl ls d last (P ++ r)
theorem Wp.first (ls : List S95) (d : Nat → Nat) (v : Nat) : Wp ls d v v [] := fun r h => h
theorem Wp.step {d : Nat → Nat} {last v k : Nat} {P : List Int} {x : S95} (h : Wp ls d last v P) (hv : v ≠ 0) (hx : ls[k]? = some x) (h1 : x.f1 = v) (h2 : 0 < x.f2) (h3 : d x.f0.toNat < d v) : Wp ls d last x.f0.toNat (P ++ [(k : Int)]) := fun r hr => by
  have := h ((k : Int) :: r) ⟨hv, k, x, rfl, hx, h1, h2, h3, hr⟩
  rw [List.append_assoc]
  exact this
theorem Pb.at_ (h : Pb ls n V bl) {v : Nat} (hv : v ∈ V) (h0 : v ≠ 0) : ∃ (k : Nat) (x : S95), ls[k]? = some x ∧ bl[v]? = some ((k : Int) + 1) ∧ x.f1 = v ∧ 0 < x.f2 ∧ x.f0.toNat ∈ V ∧ V.idxOf x.f0.toNat < V.idxOf v := by
  obtain ⟨j, hj⟩ := List.mem_iff_getElem?.mp hv
  have hj0 : 0 < j := by
    rcases Nat.eq_zero_or_pos j with e | e
    · subst e
      rw [h.v0] at hj
      exact absurd (Option.some.inj hj).symm h0
    · exact e
  obtain ⟨j', k, x, q1, q2, q3, q4, q5, q6⟩ := h.back j v hj hj0
  have idx_of : ∀ {k : Nat} {a : Nat}, V[k]? = some a → V.idxOf a = k := fun {k a} hk => by
    have h1 : V.idxOf a < V.length := List.idxOf_lt_length_of_mem (List.mem_of_getElem? hk)
    exact nodup_inj h.nd (by rw [List.getElem?_eq_getElem h1, List.getElem_idxOf h1]) hk
  exact ⟨k, x, q2, q4, q5, q6, List.mem_of_getElem? q3, by rw [idx_of q3, idx_of hj]; exact q1⟩
theorem Pb.closed (h : Pb ls n V bl) (hW : WsOk ls n) (hd : Dn ls V V.length) {last : Nat} (hl : last < n) (hb : bl[last]? = some 0) (hl0 : last ≠ 0) (P : List Int) : PathOk ls last P false := by
  refine ⟨fun q => (by cases q), fun _ => ⟨fun v => v ∈ V, List.mem_of_getElem? h.v0, fun q => (h.is last hl).mpr ⟨q, hl0⟩ hb, fun x hx a b => ?_⟩⟩
  obtain ⟨j, hj⟩ := List.mem_iff_getElem?.mp a
  have := hW x hx
  exact hd j _ (List.getElem?_eq_some_iff.1 hj).1 hj x hx (by omega) b
end
/-! ### In memory -/
structure Qm (w0 w : World) (gB cB n : Nat) (bl : List Int) (v7 : Value) (rw_ : List Int) : Prop where
  by_ : Kd.R kI 3 w w0.heap.size (fun _ => True) (.slice (some ⟨gB, 0, none⟩) n cB) bl
  row : Kd.R kI 3 w w0.heap.size (fun _ => True) v7 rw_
  ap : v7.ownBlock ≠ some gB
  bel : Below w0.heap.size w0 w
  size : w0.heap.size ≤ w.heap.size
section
variable {w0 w w' : World} {gB cB n : Nat} {bl : List Int} {v7 : Value} {rw_ : List Int}
theorem Qm.below (h : Qm w0 w gB cB n bl v7 rw_) (l : Below w.heap.size w w') : Qm w0 w' gB cB n bl v7 rw_ :=
  ⟨Kd.R_below h.by_ l, Kd.R_below h.row l, h.ap, below_step' h.bel h.size l, Nat.le_trans h.size l.size⟩
theorem Qm.set (h : Qm w0 w gB cB n bl v7 rw_) {i : Nat} {x : Int} (hi : bl[i]? = some x) :
    w.cell? ⟨gB, i * 1, none⟩ = some (.int .i64 x) ∧ w.frozen? ⟨gB, i * 1, none⟩ = false ∧ (∀ y : Int, ∃ w', w' = w.setCell ⟨gB, i * 1, none⟩ (.int .i64 y) ∧ Qm w0 w' gB cB n (bl.set i y) v7 rw_) := by
  obtain ⟨g, eA, hg, c1, fr, ⟨cells, hc⟩, st⟩ := rowI_at h.by_ hi
  injection eA with eA
  injection eA with eA
  subst eA
  refine ⟨c1, fr, fun y => ?_⟩
  obtain ⟨w', hw', R', g'⟩ := st y
  refine ⟨w', hw', R', ?_, h.ap, h.bel.grown g' h.size (fun z ez => by cases ez; exact hg), Nat.le_trans h.size g'.size⟩
  exact Kd.R_mono (Kd.R_grown (Kd.R_tight rfl h.row) g' (fun k hk ek => h.ap (by rw [← hk, ek]))) (fun _ _ => trivial)
end
end Go.Proofs.Ytmnjlnkfihklgaa.T
namespace Go.Proofs.Ytmnjlnkfihklgaa.T
open Go.RowKit Go.Proofs.YtmnjlnkfihklgaaW.PrintWords Go.Proofs.YtmnjlnkfihklgaaW.PrintMore
open Go.Proofs.Ytmnjlnkfihklgaa.P
set_option linter.unusedVariables false
set_option linter.unusedSimpArgs false

end Go.Proofs.Ytmnjlnkfihklgaa.T
namespace Go.Proofs.Ytmnjlnkfihklgaa.T
open Go.RowKit Go.Proofs.YtmnjlnkfihklgaaW.PrintWords Go.Proofs.YtmnjlnkfihklgaaW.PrintMore
open Go.Proofs.Ytmnjlnkfihklgaa.P
set_option linter.unusedVariables false
/-- The ways, with what flows. -/
def wayF (f : Nat → Int) : List Ed → Nat → List S95
  | [], _ => []
  | e :: r, k => ⟨e.fr, e.td, e.cap - f k⟩ :: ⟨e.td, e.fr, f k⟩ :: wayF f r (k + 1)
def hI (h : Nat × Bool) : Nat := 2 * h.1 + if h.2 then 0 else 1
theorem wayF_len (f : Nat → Int) : ∀ (E : List Ed) (k : Nat), (wayF f E k).length = 2 * E.length
  | [], _ => rfl
  | e :: r, k => by simp only [wayF, List.length_cons, wayF_len f r (k + 1)]; omega
theorem wayF_at (f : Nat → Int) : ∀ {E : List Ed} {k0 i : Nat} {e : Ed}, E[i]? = some e → (wayF f E k0)[2 * i]? = some ⟨e.fr, e.td, e.cap - f (k0 + i)⟩ ∧ (wayF f E k0)[2 * i + 1]? = some ⟨e.td, e.fr, f (k0 + i)⟩
  | [], _, _, _, h => by simp at h
  | a :: r, k0, 0, e, h => by
    obtain rfl : a = e := by simpa using h
    exact ⟨rfl, rfl⟩
  | a :: r, k0, i + 1, e, h => by
    have ih := wayF_at f (E := r) (k0 := k0 + 1) (i := i) (e := e) (by simpa using h)
    rw [show k0 + 1 + i = k0 + (i + 1) by omega] at ih
    refine ⟨?_, ?_⟩
    · rw [show 2 * (i + 1) = 2 * i + 1 + 1 by omega]
      simpa [wayF] using ih.1
    · rw [show 2 * (i + 1) + 1 = 2 * i + 1 + 1 + 1 by omega]
      simpa [wayF] using ih.2
theorem wayF_half {f : Nat → Int} {E : List Ed} {k : Nat} {e : Ed} (h : E[k]? = some e) (b : Bool) : (wayF f E 0)[hI (k, b)]? = some ⟨near e b, far e b, roomP E f (k, b)⟩ := by
  obtain ⟨h1, h2⟩ := wayF_at f (k0 := 0) h
  rw [Nat.zero_add] at h1 h2
  unfold hI roomP near far
  cases b
  · simp only [Bool.false_eq_true, if_false]
    exact h2
  · simp only [if_true, Nat.add_zero, getD_at h]
    exact h1
theorem wayF_inv {f : Nat → Int} {E : List Ed} {i : Nat} {x : S95} (h : (wayF f E 0)[i]? = some x) : ∃ (k : Nat) (b : Bool) (e : Ed), i = hI (k, b) ∧ E[k]? = some e ∧ x = ⟨near e b, far e b, roomP E f (k, b)⟩ := by
  have hl := (List.getElem?_eq_some_iff.1 h).1
  rw [wayF_len] at hl
  have hk : i / 2 < E.length := by omega
  have he : E[i / 2]? = some (E[i / 2]'hk) := List.getElem?_eq_getElem hk
  refine ⟨i / 2, decide (i % 2 = 0), _, ?_, he, ?_⟩
  · unfold hI
    by_cases q : i % 2 = 0
    · simp only [q, decide_true, if_true]; omega
    · simp only [q, decide_false, Bool.false_eq_true, if_false]; omega
  · have h2 := wayF_half (f := f) he (decide (i % 2 = 0))
    have e1 : hI (i / 2, decide (i % 2 = 0)) = i := by
      unfold hI
      by_cases q : i % 2 = 0
      · simp only [q, decide_true, if_true]; omega
      · simp only [q, decide_false, Bool.false_eq_true, if_false]; omega
    rw [e1, h] at h2
    exact Option.some.inj h2
/-- A way, by the halves of its edges. -/
def Wh (E : List Ed) (f : Nat → Int) : Nat → List (Nat × Bool) → Prop
  | v, [] => v = 0
  | v, (k, b) :: r => v ≠ 0 ∧ ∃ e, E[k]? = some e ∧ far e b = v ∧ 0 < roomP E f (k, b) ∧ Wh E f (near e b) r
theorem wh_of {E : List Ed} {f : Nat → Int} {d : Nat → Nat} : ∀ {P : List Int} {v : Nat}, Wl (wayF f E 0) d v P → ∃ H : List (Nat × Bool), P = H.map (fun h => (hI h : Int)) ∧ Wh E f v H ∧ (H.map Prod.fst).Nodup ∧ ∀ k b e, (k, b) ∈ H → E[k]? = some e → d (far e b) ≤ d v ∧ d (near e b) < d (far e b)
  | [], v, h => ⟨[], rfl, h, by simp, fun k b e hk => by cases hk⟩
  | i :: r, v, ⟨h0, k0, x, hik, hx, h1, h2, h3, h4⟩ => by
    subst hik
    obtain ⟨k, b, e, rfl, he, rfl⟩ := wayF_inv hx
    simp only [Int.toNat_natCast] at h1 h2 h3 h4
    have hf : far e b = v := by omega
    obtain ⟨H, q1, q2, q3, q4⟩ := wh_of h4
    refine ⟨(k, b) :: H, by rw [q1]; rfl, ⟨h0, e, he, hf, h2, q2⟩, ?_, ?_⟩
    · rw [List.map_cons, List.nodup_cons]
      refine ⟨fun hm => ?_, q3⟩
      obtain ⟨⟨k', b'⟩, m1, m2⟩ := List.mem_map.mp hm
      obtain rfl : k' = k := m2
      obtain ⟨t1, t2⟩ := q4 k' b' e m1 he
      by_cases hb : b' = b
      · subst hb
        rw [hf] at t1
        omega
      · obtain rfl : b' = !b := by cases b <;> cases b' <;> simp at hb ⊢
        rw [near_not, hf] at t2
        rw [far_not] at t1 t2
        omega
    · intro k' b' e' hm' he'
      rcases List.mem_cons.mp hm' with q | q
      · injection q with p1 p2
        subst p1 p2
        rw [he] at he'
        cases he'
        rw [hf]
        exact ⟨Nat.le_refl _, h3⟩
      · obtain ⟨t1, t2⟩ := q4 k' b' e' q he'
        exact ⟨by omega, t2⟩
theorem wh_congr {E : List Ed} {f g : Nat → Int} : ∀ {H : List (Nat × Bool)} {v : Nat}, (∀ h ∈ H, roomP E g h = roomP E f h) → Wh E f v H → Wh E g v H
  | [], _, _, h => h
  | (k, b) :: r, v, hr, ⟨h1, e, h3, h4, h7, h8⟩ => ⟨h1, e, h3, h4, by rw [hr _ List.mem_cons_self]; exact h7, wh_congr (fun h hm => hr h (List.mem_cons_of_mem _ hm)) h8⟩
theorem wh_step {E : List Ed} {f : Nat → Int} {k : Nat} {b : Bool} {r : List (Nat × Bool)} {v : Nat} {e : Ed} (he : E[k]? = some e) (hf : far e b = v) (h0 : 0 < roomP E f (k, b)) (hw : Wh E f (near e b) r) (hnd : (((k, b) :: r).map Prod.fst).Nodup) (ho : FlowOk E f) :
    Wh E (upd f k (sgn b 1)) (near e b) r ∧ (r.map Prod.fst).Nodup ∧ FlowOk E (upd f k (sgn b 1)) ∧ ∀ u, exc (upd f k (sgn b 1)) u E 0 = exc f u E 0 + (if v = u then 1 else 0) - (if near e b = u then 1 else 0) := by
  rw [List.map_cons, List.nodup_cons] at hnd
  have hr : ∀ h ∈ r, roomP E (upd f k (sgn b 1)) h = roomP E f h := fun h hm => by
    obtain ⟨j, c⟩ := h
    exact room_upd_other c _ (fun q => hnd.1 (by subst q; exact List.mem_map.mpr ⟨_, hm, rfl⟩))
  refine ⟨wh_congr hr hw, hnd.2, fun j a ha => ?_, fun u => ?_⟩
  · by_cases q : j = k
    · subst q
      rw [he] at ha
      cases ha
      have h2 := ho j e he
      rw [upd_same]
      unfold roomP at h0
      rw [getD_at he] at h0
      cases b
      · simp only [sgn, Bool.false_eq_true, if_false] at h0 ⊢
        omega
      · simp only [sgn, if_true] at h0 ⊢
        omega
    · rw [upd_other f _ q]
      exact ho j a ha
  · have := exc_upd f u (sgn b 1) E 0 k e he
    rw [Nat.zero_add] at this
    rw [this]
    subst hf
    cases b
    · simp only [near, far, sgn, Bool.false_eq_true, if_false]
      split <;> split <;> omega
    · simp only [near, far, sgn, if_true]
/-! ### The two numberings of the nodes -/
theorem rN_lt {R T r m : Nat} (hr : r < R) (hm : m ≤ T) : 0 < rN R r m ∧ rN R r m < lastN R T := by
  have h1 := Nat.mul_le_mul_right R hm
  unfold rN lastN
  rw [Nat.mul_add, Nat.mul_one, Nat.mul_comm R T]
  omega
theorem rN_inj {R r m s k : Nat} (hr : r < R) (hs : s < R) (h : rN R r m = rN R s k) : r = s ∧ m = k := by
  unfold rN at h
  have h1 : (m * R + r) % R = (k * R + s) % R := by congr 1; omega
  have h2 : (m * R + r) / R = (k * R + s) / R := by congr 1; omega
  rw [Nat.mul_comm m R, Nat.mul_comm k R] at h1 h2
  rw [Nat.mul_add_mod, Nat.mul_add_mod, Nat.mod_eq_of_lt hr, Nat.mod_eq_of_lt hs] at h1
  rw [Nat.mul_add_div (by omega), Nat.mul_add_div (by omega), Nat.div_eq_of_lt hr, Nat.div_eq_of_lt hs] at h2
  exact ⟨h1, by omega⟩
theorem lastN_pos (R T : Nat) : 0 < lastN R T := by unfold lastN; omega
theorem xN_lt {R T v : Nat} (hv : v < nodeN T R 0) : xN R T v < lastN R T + 1 := by
  by_cases e0 : v = 0
  · subst e0
    rw [xN_zero]
    omega
  · by_cases e1 : v = 1
    · subst e1
      rw [xN_one]
      omega
    · obtain ⟨r, m, q1, q2, rfl⟩ := node_of (by omega) hv
      rw [xN_node q2]
      have := rN_lt q1 q2
      omega
theorem xN_inj {R T v u : Nat} (hv : v < nodeN T R 0) (hu : u < nodeN T R 0) (h : xN R T v = xN R T u) : v = u := by
  have kind : ∀ v, v < nodeN T R 0 → v = 0 ∨ v = 1 ∨ ∃ r m, r < R ∧ m ≤ T ∧ v = nodeN T r m := fun v hv => by
    by_cases e0 : v = 0
    · exact .inl e0
    · by_cases e1 : v = 1
      · exact .inr (.inl e1)
      · exact .inr (.inr (node_of (by omega) hv))
  have lp := lastN_pos R T
  rcases kind v hv with rfl | rfl | ⟨r, m, hr, hm, rfl⟩
  · rcases kind u hu with rfl | rfl | ⟨s, k, hs, hk, rfl⟩
    · rfl
    · rw [xN_zero, xN_one] at h; omega
    · rw [xN_zero, xN_node hk] at h; have := rN_lt hs hk; omega
  · rcases kind u hu with rfl | rfl | ⟨s, k, hs, hk, rfl⟩
    · rw [xN_zero, xN_one] at h; omega
    · rfl
    · rw [xN_one, xN_node hk] at h; have := rN_lt hs hk; omega
  · rcases kind u hu with rfl | rfl | ⟨s, k, hs, hk, rfl⟩
    · rw [xN_zero, xN_node hm] at h; have := rN_lt hr hm; omega
    · rw [xN_one, xN_node hm] at h; have := rN_lt hr hm; omega
    · rw [xN_node hm, xN_node hk] at h
      obtain ⟨rfl, rfl⟩ := rN_inj hr hs h
      rfl
theorem exc_map {f : Nat → Int} {F : Ed → Ed} {g : Nat → Nat} {v : Nat} : ∀ {E : List Ed} {k : Nat}, (∀ e ∈ E, ((F e).fr = g v ↔ e.fr = v) ∧ ((F e).td = g v ↔ e.td = v)) → exc f (g v) (E.map F) k = exc f v E k
  | [], _, _ => rfl
  | e :: r, k, h => by
    have h1 := h e List.mem_cons_self
    simp only [List.map_cons, exc, exc_map (E := r) (k := k + 1) (fun x hx => h x (List.mem_cons_of_mem _ hx)), h1.1, h1.2]
section
variable {ps : List Int} {qs : List S45} {T : Nat} {f : Nat → Int}
theorem edX_at {k : Nat} {e : Ed} (h : (edH ps qs T)[k]? = some e) : (edX ps qs T)[k]? = some (xE ps T e) := by
  unfold edX
  rw [List.getElem?_map, h]
  rfl
theorem edX_exc (h : HOk ps qs) {v : Nat} (hv : v < nodeN T ps.length 0) : exc f (xN ps.length T v) (edX ps qs T) 0 = exc f v (edH ps qs T) 0 := by
  unfold edX
  refine exc_map (g := xN ps.length T) fun e he => ?_
  obtain ⟨h1, h2, _⟩ := edH_ok (T := T) h e he
  exact ⟨⟨fun q => xN_inj h1 hv q, fun q => by rw [← q]; rfl⟩, ⟨fun q => xN_inj h2 hv q, fun q => by rw [← q]; rfl⟩⟩
theorem edX_ok (h : HOk ps qs) : ∀ e ∈ edX ps qs T, e.fr < lastN ps.length T + 1 ∧ e.td < lastN ps.length T + 1 := by
  intro e he
  obtain ⟨a, ha, rfl⟩ := List.mem_map.mp he
  obtain ⟨h1, h2, _⟩ := edH_ok (T := T) h a ha
  exact ⟨xN_lt h1, xN_lt h2⟩
theorem wsX (h : HOk ps qs) (f : Nat → Int) : WsOk (wayF f (edX ps qs T) 0) (lastN ps.length T + 1) := by
  intro x hx
  obtain ⟨i, hi⟩ := List.mem_iff_getElem?.mp hx
  obtain ⟨k, b, e, _, he, rfl⟩ := wayF_inv hi
  have := edX_ok h e (List.mem_of_getElem? he)
  cases b <;> simp only [near, far, Bool.false_eq_true, if_true, if_false] <;> omega
theorem allP_nonneg (h : HOk ps qs) : 0 ≤ allP ps := by
  unfold allP
  exact sumN_nonneg fun r hr => (h.p _ (getD_mem (z := 0) hr)).1
theorem edX_cap (h : HOk ps qs) : ∀ e ∈ edX ps qs T, 0 ≤ e.cap ∧ e.cap ≤ 1073741824 := by
  intro e he
  obtain ⟨a, ha, rfl⟩ := List.mem_map.mp he
  have h1 := edH_cap h a ha
  have h2 := allP_le h
  have h3 := allP_nonneg h
  unfold xE
  simp only
  split <;> omega
/-- Where the reference stands: so many are out. -/
structure Xf (ps : List Int) (qs : List S45) (T : Nat) (f : Nat → Int) (n : Int) : Prop where
  ok : FlowOk (edX ps qs T) f
  calm : ∀ v, v ≠ 0 → v ≠ lastN ps.length T → exc f v (edX ps qs T) 0 = 0
  out : exc f (lastN ps.length T) (edX ps qs T) 0 = n
theorem Xf.first (h : HOk ps qs) : Xf ps qs T (fun _ => 0) 0 := ⟨fun k e he => ⟨Int.le_refl _, (edX_cap h e (List.mem_of_getElem? he)).1⟩, fun v _ _ => exc_zero v _ 0, exc_zero _ _ 0⟩
theorem Xf.hflow {n : Int} (X : Xf ps qs T f n) (h : HOk ps qs) : HFlow ps qs T f n := by
  refine ⟨fun k e he => (X.ok k _ (edX_at he)).1, fun k e he hc => ?_, fun v hv h0 h1 => ?_, ?_⟩
  · have := (X.ok k _ (edX_at he)).2
    unfold xE at this
    simp only at this
    rw [if_neg (fun z => by rcases hc with q | q; exact z.1 q; exact q z.2)] at this
    exact this
  · rw [← edX_exc h hv]
    have lp := lastN_pos ps.length T
    refine X.calm _ (fun e => h0 ?_) (fun e => h1 ?_)
    · exact xN_inj hv (by have := one_lt ps T; omega) (e.trans (xN_zero _ _).symm)
    · exact xN_inj hv (one_lt ps T) (e.trans (xN_one _ _).symm)
  · rw [← edX_exc h (one_lt ps T), xN_one]
    exact X.out
theorem Xf.le {n : Int} (X : Xf ps qs T f n) (h : HOk ps qs) : n ≤ allP ps := (X.hflow h).out_le h
theorem bound_all (h : HOk ps qs) : boundU ps qs T (fun _ => T + 1) = allP ps := by
  unfold boundU allP
  rw [sumQ_congr (b := fun _ _ => 0), sumQ_zero, Int.add_zero]
  · exact sumN_congr fun r _ => if_pos (Nat.succ_pos T)
  · intro i k _ hk
    exact if_neg (fun z => by have h1 : T + 1 ≤ k := z.1; omega)
theorem Xf.most {n : Int} (X : Xf ps qs T f n) (h : HOk ps qs) (S : Nat → Prop) (h0 : S 0) (h1 : ¬ S (lastN ps.length T)) (hc : ∀ x ∈ wayF f (edX ps qs T) 0, S x.f0.toNat → 0 < x.f2 → S x.f1.toNat) : IsMost ps qs T n := by
  have F := X.hflow h
  have half : ∀ (k : Nat) (e : Ed), (edX ps qs T)[k]? = some e → ∀ b, S (near e b) → ¬ S (far e b) → roomP (edX ps qs T) f (k, b) ≤ 0 := by
    intro k e he b hs ht
    have := hc _ (List.mem_of_getElem? (wayF_half (f := f) he b))
    simp only [Int.toNat_natCast] at this
    by_cases q : 0 < roomP (edX ps qs T) f (k, b)
    · exact absurd (this hs q) ht
    · omega
  have cut : ∀ (k : Nat) (e : Ed), (edH ps qs T)[k]? = some e → (S (xN ps.length T e.fr) → ¬ S (xN ps.length T e.td) → f k = (xE ps T e).cap) ∧ (¬ S (xN ps.length T e.fr) → S (xN ps.length T e.td) → f k = 0) := by
    intro k e he
    have hx := edX_at he
    have hok := X.ok k _ hx
    refine ⟨fun a b => ?_, fun a b => ?_⟩
    · have := half k _ hx true a b
      unfold roomP at this
      rw [getD_at hx] at this
      simp only [if_true] at this
      omega
    · have := half k _ hx false b a
      unfold roomP at this
      simp only [Bool.false_eq_true, if_false] at this
      omega
  by_cases sat : ∃ r m k, r < ps.length ∧ m < T ∧ (edH ps qs T)[k]? = some (holdE T r m) ∧ f k = allP ps
  · obtain ⟨r, m, k, hr, hm, hk, e⟩ := sat
    have a1 := F.hold_le h hm hk
    have a2 := F.out_le h
    obtain rfl : n = allP ps := by omega
    exact ⟨⟨_, F.use h⟩, fun _ => T + 1, fun _ _ => Nat.le_refl _, bound_all h⟩
  · have up : ∀ r m, r < ps.length → m < T → S (rN ps.length r m) → S (rN ps.length r (m + 1)) := by
      intro r m hr hm hs
      refine Classical.byContradiction fun q => ?_
      obtain ⟨k, hk⟩ := hold_mem (qs := qs) hr hm
      have c1 := (cut k _ hk).1
      have hn := nodeN_two T r m
      unfold holdE at c1
      simp only [xN_node (show m ≤ T by omega), xN_node (show m + 1 ≤ T by omega)] at c1
      have := c1 hs q
      unfold xE at this
      simp only at this
      rw [if_pos ⟨by omega, trivial⟩] at this
      exact sat ⟨r, m, k, hr, hm, hk, this⟩
    have ups : ∀ r m, r < ps.length → S (rN ps.length r m) → ∀ j, m + j ≤ T → S (rN ps.length r (m + j)) := by
      intro r m hr hi j
      induction j with
      | zero => intro _; exact hi
      | succ j ih =>
        intro hj
        exact up r (m + j) hr (by omega) (ih (by omega))
    have hx : ∀ r, ∃ h, h ≤ T + 1 ∧ (∀ m, m < h → ¬ S (rN ps.length r m)) ∧ (h ≤ T → S (rN ps.length r h)) := fun r => first_of (fun m => S (rN ps.length r m)) T
    have hsp := fun r => Classical.choose_spec (hx r)
    refine ⟨⟨_, F.use h⟩, fun r => Classical.choose (hx r), fun r _ => (hsp r).1, ?_⟩
    refine F.most h (fun v => S (xN ps.length T v)) (by rw [xN_zero]; exact h0) (by rw [xN_one]; exact h1) _ (fun r m hr hm => ?_) (fun k e he => ?_)
    · rw [xN_node hm]
      obtain ⟨q1, q2, q3⟩ := hsp r
      constructor
      · intro q
        have := ups r _ hr (q3 (by omega)) (m - Classical.choose (hx r)) (by omega)
        rw [show Classical.choose (hx r) + (m - Classical.choose (hx r)) = m by omega] at this
        exact this
      · intro q
        by_cases z : Classical.choose (hx r) ≤ m
        · exact z
        · exact absurd q (q2 m (by omega))
    · refine ⟨fun a b => ?_, (cut k e he).2⟩
      have c1 := (cut k e he).1 a b
      rw [c1]
      unfold xE
      simp only
      by_cases z : e.fr ≠ 0 ∧ e.up = -1
      · refine absurd ?_ sat
        rcases List.mem_append.mp (List.mem_of_getElem? he) with hm | hm
        · obtain ⟨r, hr, rfl | ⟨m, hm', rfl⟩⟩ := edRs_mem hm
          · exact absurd rfl z.1
          · refine ⟨r, m, k, hr, hm', he, ?_⟩
            rw [c1]
            unfold xE
            simp only
            exact if_pos ⟨z.1, trivial⟩
        · obtain ⟨i, m, hi, hm', rfl⟩ := edQs_mem hm
          have := z.2
          simp only at this
          omega
      · rw [if_neg z]
end
end Go.Proofs.Ytmnjlnkfihklgaa.T
namespace Go.Proofs.Ytmnjlnkfihklgaa.T
open Go.RowKit Go.Proofs.YtmnjlnkfihklgaaW.PrintWords Go.Proofs.YtmnjlnkfihklgaaW.PrintMore
open Go.Proofs.Ytmnjlnkfihklgaa.P
set_option linter.unusedVariables false
set_option linter.unusedSimpArgs false

/-- A flow, and one more who is on the way to a node. -/
structure Xg (E : List Ed) (last : Nat) (f g : Nat → Int) (v : Nat) (H : List (Nat × Bool)) : Prop where
  wh : Wh E g v H
  nd : (H.map Prod.fst).Nodup
  ok : FlowOk E g
  exc : ∀ u, exc g u E 0 = T.exc f u E 0 + (if last = u then 1 else 0) - (if v = u then 1 else 0)
theorem Xg.step {E : List Ed} {last : Nat} {f g : Nat → Int} {k : Nat} {b : Bool} {r : List (Nat × Bool)} {v : Nat} {e : Ed} (X : Xg E last f g v ((k, b) :: r)) (he : E[k]? = some e) : Xg E last f (upd g k (sgn b 1)) (near e b) r := by
  obtain ⟨_, e', he', hf, h0, hw⟩ := X.wh
  rw [he] at he'
  cases he'
  obtain ⟨q1, q2, q3, q4⟩ := wh_step he hf h0 hw X.nd X.ok
  refine ⟨q1, q2, q3, fun u => ?_⟩
  rw [q4, X.exc]
  omega
theorem Xg.last {ps : List Int} {qs : List S45} {T v : Nat} {f g : Nat → Int} {n : Int} (X : Xg (edX ps qs T) (lastN ps.length T) f g v []) (F : Xf ps qs T f n) : Xf ps qs T g (n + 1) := by
  have h0 : v = 0 := X.wh
  subst h0
  have lp := lastN_pos ps.length T
  refine ⟨X.ok, fun u h1 h2 => ?_, ?_⟩
  · rw [X.exc, F.calm u h1 h2, if_neg (fun e => h2 e.symm), if_neg (fun e => h1 e.symm)]
    rfl
  · rw [X.exc, F.out, if_pos rfl, if_neg (by omega)]
    omega
end Go.Proofs.Ytmnjlnkfihklgaa.T
namespace Go.Proofs.Ytmnjlnkfihklgaa.T
open Go.RowKit Go.Proofs.YtmnjlnkfihklgaaW.PrintWords Go.Proofs.YtmnjlnkfihklgaaW.PrintMore
open Go.Proofs.Ytmnjlnkfihklgaa.P
set_option linter.unusedVariables false
set_option linter.unusedSimpArgs false

/-- Up to a later minute there are no fewer. -/
theorem sumN_more {a : Nat → Int} (h : ∀ k, 0 ≤ a k) {n : Nat} : ∀ {m}, n ≤ m → sumN a n ≤ sumN a m
  | 0, hm => by rw [show n = 0 by omega]; exact Int.le_refl _
  | m + 1, hm => by
    by_cases e : n = m + 1
    · rw [e]; exact Int.le_refl _
    · have h1 := sumN_more h (n := n) (m := m) (by omega)
      have h2 := h m
      simp only [sumN]
      omega
theorem bound_later {ps : List Int} {qs : List S45} (h : HOk ps qs) {T V : Nat} (hTV : T ≤ V) (hr : Nat → Nat) : boundU ps qs T hr ≤ boundU ps qs V hr := by
  unfold boundU
  refine Int.add_le_add_left ?_ _
  unfold sumQ
  refine sumN_le fun i hi => sumN_more (fun k => ?_) (by omega)
  have := (h.q _ (getD_mem (z := z45) hi)).2.2.2.2.2.1
  dsimp only
  split
  · exact this
  · exact Int.le_refl _
theorem most_later {ps : List Int} {qs : List S45} (h : HOk ps qs) {T V : Nat} {N M : Int} (hTV : T ≤ V) (a : IsMost ps qs T N) (b : IsMost ps qs V M) : N ≤ M := by
  obtain ⟨⟨u, hu, eu⟩, _⟩ := a
  obtain ⟨_, hr, _, er⟩ := b
  have h1 := use_le h hu hr
  have h2 := bound_later h hTV hr
  omega
theorem most_all {ps : List Int} {qs : List S45} (h : HOk ps qs) {T : Nat} {N : Int} (a : IsMost ps qs T N) : N ≤ allP ps := by
  obtain ⟨⟨u, hu, eu⟩, _⟩ := a
  have h1 := use_le h hu (fun _ => T + 1)
  rw [bound_all h] at h1
  omega
end Go.Proofs.Ytmnjlnkfihklgaa.T
namespace Go.Proofs.Ytmnjlnkfihklgaa.T
open Go.RowKit Go.Proofs.YtmnjlnkfihklgaaW.PrintWords Go.Proofs.YtmnjlnkfihklgaaW.PrintMore
open Go.Proofs.Ytmnjlnkfihklgaa.P
set_option linter.unusedVariables false
abbrev eP : List Int := [5, 4]
abbrev eQ : List S45 := [⟨0, 1, 2, 1⟩, ⟨0, -1, 1, 2⟩, ⟨1, -1, 3, 1⟩, ⟨1, 0, 1, 1⟩]
def uL : List (Nat × Nat × Int) → Nat → Nat → Int
  | [], _, _ => 0
  | (a, b, c) :: r, i, k => if a = i ∧ b = k then c else uL r i k
theorem use_of {ps : List Int} {qs : List S45} {T : Nat} {u : Nat → Nat → Int} (h : ∀ i, i < qs.length → ∀ k, k < T + 1 → k + (qs.getD i z45).f3.toNat < T + 1 → 0 ≤ u i k ∧ u i k ≤ (qs.getD i z45).f2) (h2 : ∀ r, r < ps.length → ∀ m, m < T + 1 → 0 ≤ thereU ps qs T u r m) : Use ps qs T u :=
  ⟨fun i k hi hk => h i hi k (by omega) hk, fun r m hr hm => h2 r hr m (by omega)⟩
def hrL (l : List Nat) (r : Nat) : Nat := l.getD r 0
theorem eOk : HOk eP eQ := by decide
set_option maxRecDepth 100000 in
theorem eMost2 : IsMost eP eQ 2 7 := ⟨⟨uL [(0, 0, 2), (1, 0, 1), (2, 0, 3), (2, 1, 3)], use_of (by decide) (by decide), by decide⟩, hrL [0, 0], by decide, by decide⟩
set_option maxRecDepth 100000 in
theorem eMost3 : IsMost eP eQ 3 9 := ⟨⟨uL [(0, 0, 2), (0, 1, 1), (1, 0, 1), (1, 1, 1), (2, 0, 3), (2, 1, 3), (2, 2, 1)], use_of (by decide) (by decide), by decide⟩, hrL [2, 3], by decide, by decide⟩
set_option maxRecDepth 100000 in
theorem eShut0 : IsMost eP (shutQ eQ 0) 3 6 := ⟨⟨uL [(1, 0, 1), (1, 1, 1), (2, 0, 3), (2, 1, 1)], use_of (by decide) (by decide), by decide⟩, hrL [0, 3], by decide, by decide⟩
set_option maxRecDepth 100000 in
theorem eShut1 : IsMost eP (shutQ eQ 1) 3 8 := ⟨⟨uL [(0, 0, 2), (0, 1, 2), (2, 0, 3), (2, 1, 3), (2, 2, 2)], use_of (by decide) (by decide), by decide⟩, hrL [0, 3], by decide, by decide⟩
set_option maxRecDepth 100000 in
theorem eShut2 : IsMost eP (shutQ eQ 2) 3 2 := ⟨⟨uL [(1, 0, 1), (1, 1, 1)], use_of (by decide) (by decide), by decide⟩, hrL [0, 0], by decide, by decide⟩
set_option maxRecDepth 100000 in
theorem eShut3 : IsMost eP (shutQ eQ 3) 3 9 := ⟨⟨uL [(0, 0, 2), (0, 1, 1), (1, 0, 1), (1, 1, 1), (2, 0, 3), (2, 1, 3), (2, 2, 1)], use_of (by decide) (by decide), by decide⟩, hrL [2, 3], by decide, by decide⟩
theorem eAll : allP eP = 9 := by decide
theorem eChk (m : Int) (h : inR m 0 60) : chkE eP eQ m = 0 := chkE_ok.mpr ⟨eOk, h⟩
theorem eMostR {N : Int} (h : MostR eP eQ 2 N) : N = 7 := (h.1 (eChk 2 (by decide))).one eOk eMost2
theorem eEmptyR {N E : Int} (h : EmptyR eP eQ N E) : N = 3 ∧ E = 0 := by
  rcases h.2 eOk with ⟨t, h1, h2, h3, h4, h5⟩ | ⟨h1, h2, h3⟩
  · refine ⟨?_, h3⟩
    rw [h2]
    rcases Nat.lt_trichotomy t 3 with q | q | q
    · have := most_later eOk (show t ≤ 2 by omega) h4 eMost2
      rw [eAll] at this
      omega
    · omega
    · exact absurd (by rw [eAll]; exact eMost3) (h5 3 q)
  · exact absurd (by rw [eAll]; exact eMost3) (h3 3 (by omega))
theorem eNeed : needL eP eQ 3 4 = [0, 1, 2] := by
  have a0 : needP eP eQ 3 0 := ⟨6, eShut0, by decide⟩
  have a1 : needP eP eQ 3 1 := ⟨8, eShut1, by decide⟩
  have a2 : needP eP eQ 3 2 := ⟨2, eShut2, by decide⟩
  have a3 : ¬ needP eP eQ 3 3 := fun ⟨M, h1, h2⟩ => by
    have := IsMost.one (shutQ_ok eOk (by decide)) h1 eShut3
    rw [eAll] at h2
    omega
  rw [needL_no a3, needL_yes a2, needL_yes a1, needL_yes a0]
  rfl
theorem eNeedR {l : List Int} (h : NeedR eP eQ 3 l) : l = [0, 1, 2] := (h.1 (eChk 3 (by decide))).trans eNeed
abbrev eL : List S35 := [⟨0, 0, 2⟩, ⟨0, 1, 1⟩, ⟨0, 2, 3⟩, ⟨1, 2, 3⟩]
theorem isPl_of {ps : List Int} {qs : List S45} {T : Nat} {l : List S35} (h : ∀ i, i < l.length → Mv1 qs T l i (l.getD i ⟨0, 0, 0⟩)) (h2 : ∀ r, r < ps.length → ∀ m, m < T + 1 → 0 ≤ thM ps qs l r m) : IsPl ps qs T l :=
  ⟨fun i x hx => by
    have hi := (List.getElem?_eq_some_iff.1 hx).1
    have := h i hi
    rw [show l.getD i ⟨0, 0, 0⟩ = x by simp [List.getD_eq_getElem?_getD, hx]] at this
    exact this, fun r m hr hm => h2 r hr m (by omega)⟩
instance (qs : List S45) (T : Int) (x : S35) : Decidable (MvOk qs T x) := by unfold MvOk; infer_instance
instance (qs : List S45) (T : Int) (l : List S35) (i : Nat) (x : S35) : Decidable (Mv1 qs T l i x) := by unfold Mv1; infer_instance
set_option maxRecDepth 100000 in
theorem ePlan : IsPl eP eQ 2 eL := isPl_of (by decide) (by decide)
theorem eGoneR {N E : Int} (h : GoneR eP eQ 2 eL N E) : N = 7 ∧ E = 0 := by
  obtain ⟨h1, h2⟩ := (h.2 (eChk 2 (by decide))).1 ePlan
  refine ⟨?_, h2⟩
  rw [h1]
  decide
end Go.Proofs.Ytmnjlnkfihklgaa.T
namespace Go.Proofs.Ytmnjlnkfihklgaa.T
open Go.RowKit Go.Proofs.YtmnjlnkfihklgaaW.PrintWords Go.Proofs.YtmnjlnkfihklgaaW.PrintMore
open Go.Proofs.Ytmnjlnkfihklgaa.P
set_option linter.unusedVariables false
set_option linter.unusedSimpArgs false

def big (ps : List Int) (qs : List S45) : Prop := 40 < ps.length ∨ 40 < qs.length
instance (ps : List Int) (qs : List S45) : Decidable (big ps qs) := by unfold big; infer_instance
def farH (ps : List Int) (qs : List S45) : Prop := big ps qs ∨ HOk ps qs ∧ (3 < ps.length ∨ 5 < qs.length ∨ 12 < allP ps)
instance (ps : List Int) (qs : List S45) : Decidable (farH ps qs) := by unfold farH; infer_instance
def late (m : Int) : Prop := 10 < m ∧ m ≤ 60
instance (m : Int) : Decidable (late m) := by unfold late; infer_instance
def ready (ps : List Int) (qs : List S45) (m : Int) : Prop := ¬ farH ps qs ∧ ¬ late m ∧ HOk ps qs ∧ 0 ≤ m ∧ m ≤ 60
instance (ps : List Int) (qs : List S45) (m : Int) : Decidable (ready ps qs m) := by unfold ready; infer_instance
theorem not_big {ps : List Int} {qs : List S45} (h : ¬ big ps qs) : ps.length ≤ 40 ∧ qs.length ≤ 40 := by unfold big at h; omega
theorem not_far {ps : List Int} {qs : List S45} (h : ¬ farH ps qs) : ps.length ≤ 40 ∧ qs.length ≤ 40 := not_big (fun k => h (.inl k))
/-- Whole numbers written out, in a block of ours. -/
theorem C_nums {w : World} {g : Nat} (l : List Int) (hb : w.heap[g]? = some (.cells (l.map (Value.int .i64)).toArray 3 (0, 0))) (hn : l.length ≤ 1000000) : Kd.C kI w (some ⟨g, 0, none⟩) l.length l := by
  refine ⟨rfl, by omega, fun _ => ⟨_, rfl, ?_⟩⟩
  intro j p hj
  refine ⟨[.int .i64 p], rfl, rfl, fun i u hu => ?_⟩
  have hi : i < 1 := (List.getElem?_eq_some_iff.1 hu).1
  obtain rfl : i = 0 := by omega
  cases hu
  rw [Addr.add_mid, blk_cell hb]
  simp [hj, show kI.sz = 1 from rfl]
set_option maxRecDepth 100000 in
set_option maxHeartbeats 8000000 in

theorem huge_calls (ps : List Int) (qs : List S45) (A B : Option Addr) (c d : Nat) (w : World) (r : Bool) (hb : r = true ↔ big ps qs) :
    Calls Try.prog 11 #[hv ps qs A B c d] w fun e w' => e = .returned (.bool r) ∧ Below w.heap.size w w' := by
  unfold big at hb
  have hu3 := Try.underlying3
  have hu22 := Try.underlying22
  have hu23 := Try.underlying23
  have hu25 := Try.underlying25
  obtain ⟨z22, o22⟩ := info_some info22s (by decide)
  obtain ⟨z23, o23⟩ := info_some info23s (by decide)
  refine E.enter (N := 13) Try.func11 rfl Try.ntmps11 (args := [hv ps qs A B c d]) (by simp) ?_
  have L := Below.refl w.heap.size w
  refine E.CG.seq ?_
  refine E.CG.list ?_
  refine E.GL.st rfl rfl rfl (E.ST.box rfl rfl fun g1 w1 e1 b1 l1 => ?_)
  have h1_L : w.heap.size ≤ g1 := by rw [e1]; exact L.size
  replace L := below_step L l1
  refine E.GL.run rfl rfl rfl (E.Runs.assign rfl rfl) ?_
  refine E.GL.done ?_
  refine E.QG.code ?_
  refine E.CG.seq ?_
  refine E.CG.list ?_
  refine E.GL.run rfl rfl rfl (E.Runs.fieldAddr rfl rfl hu25 rfl (by assumption) rfl) ?_
  refine E.GL.run rfl rfl rfl (E.Runs.load1 rfl rfl hu22 rfl (by first | assumption | exact E.blkc (by assumption) rfl | exact pw_cell_below L (by assumption))) ?_
  refine E.GL.run rfl rfl rfl (E.Runs.len rfl rfl hu22) ?_
  refine E.GL.cmp rfl rfl rfl (fun _ h => (E.Runs.gtr rfl rfl rfl h)) (fun h6 => ?_) (fun h6 => ?_)
  · refine E.GL.run rfl rfl rfl (E.Runs.move rfl rfl) ?_
    refine E.GL.skip rfl rfl rfl ?_
    refine E.GL.skip rfl rfl rfl ?_
    refine E.GL.skip rfl rfl rfl ?_
    refine E.GL.skip rfl rfl rfl ?_
    refine E.GL.run rfl rfl rfl (E.Runs.pick_t rfl rfl rfl) ?_
    refine E.GL.run rfl rfl rfl (E.Runs.assign rfl rfl) ?_
    refine E.GL.done ?_
    refine E.QG.code ?_
    refine E.CG.ret ?_
    exact E.QG.result rfl rfl ⟨by rw [hb.mpr (by omega)], L⟩
  · refine E.GL.run rfl rfl rfl (E.Runs.move rfl rfl) ?_
    refine E.GL.run rfl rfl rfl (E.Runs.fieldAddr rfl rfl hu25 rfl (by assumption) rfl) ?_
    refine E.GL.run rfl rfl rfl (E.Runs.load1 rfl rfl hu23 rfl (by first | assumption | exact E.blkc (by assumption) rfl | exact pw_cell_below L (by assumption))) ?_
    refine E.GL.run rfl rfl rfl (E.Runs.len rfl rfl hu23) ?_
    refine E.GL.cmp rfl rfl rfl (fun _ h => (E.Runs.gtr rfl rfl rfl h)) (fun h11 => ?_) (fun h11 => ?_)
    · refine E.GL.run rfl rfl rfl (E.Runs.pick_f rfl rfl rfl) ?_
      refine E.GL.run rfl rfl rfl (E.Runs.assign rfl rfl) ?_
      refine E.GL.done ?_
      refine E.QG.code ?_
      refine E.CG.ret ?_
      exact E.QG.result rfl rfl ⟨by rw [hb.mpr (by omega)], L⟩
    · refine E.GL.run rfl rfl rfl (E.Runs.pick_f rfl rfl rfl) ?_
      refine E.GL.run rfl rfl rfl (E.Runs.assign rfl rfl) ?_
      refine E.GL.done ?_
      refine E.QG.code ?_
      refine E.CG.ret ?_
      exact E.QG.result rfl rfl ⟨by rw [bool_no hb (by omega)], L⟩

set_option maxRecDepth 100000 in
set_option maxHeartbeats 8000000 in

theorem same_calls (l k : List Int) (A A1 : Option Addr) (c c1 : Nat) (w : World) (r : Bool) (hb : r = true ↔ l = k) (h1 : Kd.C kI w A l.length l) (h2 : Kd.C kI w A1 k.length k) (hn : l.length ≤ 1000000) :
    Calls Try.prog 18 #[.slice A l.length c, .slice A1 k.length c1] w fun e w' => e = .returned (.bool r) ∧ Below w.heap.size w w' := by
  have hu3 := Try.underlying3
  have hu22 := Try.underlying22
  obtain ⟨z3, o3⟩ := info_some info3s (by decide)
  refine E.enter (N := 26) Try.func18 rfl Try.ntmps18 (args := [.slice A l.length c, .slice A1 k.length c1]) (by simp) ?_
  have L := Below.refl w.heap.size w
  refine E.CG.seq ?_
  refine E.CG.list ?_
  refine E.GL.run rfl rfl rfl (E.Runs.assign rfl rfl) ?_
  refine E.GL.done ?_
  refine E.QG.code ?_
  refine E.CG.seq ?_
  refine E.CG.seq ?_
  refine E.CG.list ?_
  refine E.GL.run rfl rfl rfl (E.Runs.move rfl rfl) ?_
  refine E.GL.run rfl rfl rfl (E.Runs.len rfl rfl hu22) ?_
  refine E.GL.run rfl rfl rfl (E.Runs.move rfl rfl) ?_
  refine E.GL.run rfl rfl rfl (E.Runs.len rfl rfl hu22) ?_
  refine E.GL.cmpn rfl rfl rfl (fun _ h => (E.Runs.neq rfl rfl rfl h)) (fun h10 => ?_) (fun h10 => ?_)
  · refine E.GL.done ?_
    refine E.QG.code ?_
    refine E.CG.cond_t rfl ?_
    refine E.CG.seq ?_
    refine E.CG.list ?_
    refine E.GL.run rfl rfl rfl (E.Runs.assign rfl rfl) ?_
    refine E.GL.done ?_
    refine E.QG.code ?_
    refine E.CG.ret ?_
    refine E.QG.pass_ret ?_
    exact E.QG.result rfl rfl ⟨by rw [bool_no hb (fun e => h10 (by rw [e]))], L⟩
  · refine E.GL.done ?_
    refine E.QG.code ?_
    refine E.CG.cond_f rfl ?_
    refine E.CG.skip ?_
    refine E.QG.code ?_
    refine E.CG.seq ?_
    refine E.CG.seq ?_
    refine E.CG.list ?_
    refine E.GL.run rfl rfl rfl (E.Runs.assign rfl rfl) ?_
    refine E.GL.done ?_
    refine E.QG.code ?_
    refine E.CG.block ?_
    have s4_L := L
    refine E.CG.loop (fun (i : Nat) => [(0, .slice A l.length c), (1, .slice A1 k.length c1), (5, .int .i64 i)]) (fun i w' => i ≤ l.length ∧ Below w.heap.size w w' ∧ ∀ j, j < i → l[j]? = k[j]?) (fun i => l.length - i) 0 (E.subc rfl (E.subc rfl (E.subc rfl E.subn))) ⟨Nat.zero_le _, L, fun j hj => by omega⟩ ?_
    rintro i w4 ⟨hi, L, hs⟩
    refine E.CG.seq ?_
    refine E.CG.seq ?_
    refine E.CG.list ?_
    refine E.GL.run rfl rfl rfl (E.Runs.move rfl rfl) ?_
    refine E.GL.run rfl rfl rfl (E.Runs.move rfl rfl) ?_
    refine E.GL.run rfl rfl rfl (E.Runs.len rfl rfl hu22) ?_
    refine E.GL.cmp rfl rfl rfl (fun _ h => (E.Runs.lss rfl rfl rfl h)) (fun h14 => ?_) (fun h14 => ?_)
    · obtain ⟨x, hx⟩ : ∃ x, l[i]? = some x := ⟨_, List.getElem?_eq_getElem (by omega)⟩
      obtain ⟨ad, eA, X⟩ := int_at h1 hx
      obtain ⟨y, hy⟩ : ∃ x, k[i]? = some x := ⟨_, List.getElem?_eq_getElem (by omega)⟩
      obtain ⟨ae, eB, Y⟩ := int_at h2 hy
      have hik : (i : Int) < l.length := by omega
      have hik2 : (i : Int) < k.length := by omega
      refine E.GL.done ?_
      refine E.QG.code ?_
      refine E.CG.cond_t rfl ?_
      refine E.CG.skip ?_
      refine E.QG.code ?_
      refine E.CG.seq ?_
      refine E.CG.block ?_
      refine E.CG.seq ?_
      refine E.CG.quietF (by kernel_rfl) rfl (by kernel_rfl) (by kernel_rfl) ?_
      refine E.GQ.run rfl rfl rfl (E.Runs.move rfl rfl) ?_
      refine E.GQ.run rfl rfl rfl (E.Runs.move rfl rfl) ?_
      refine E.GQ.run rfl rfl rfl (E.Runs.indexAddrA rfl rfl rfl hu22 (by assumption) (by assumption) (by assumption) (by first | rfl | assumption) rfl) ?_
      refine E.GQ.run rfl rfl rfl (E.Runs.load rfl rfl hu3 (by first | assumption | exact E.blkc (by assumption) rfl | exact pw_cell_below L (by assumption))) ?_
      refine E.GQ.run rfl rfl rfl (E.Runs.move rfl rfl) ?_
      refine E.GQ.run rfl rfl rfl (E.Runs.move rfl rfl) ?_
      refine E.GQ.run rfl rfl rfl (E.Runs.indexAddrA rfl rfl rfl hu22 (by assumption) (by assumption) (by assumption) (by first | rfl | assumption) rfl) ?_
      refine E.GQ.run rfl rfl rfl (E.Runs.load rfl rfl hu3 (by first | assumption | exact E.blkc (by assumption) rfl | exact pw_cell_below L (by assumption))) ?_
      refine E.GQ.cmpn rfl rfl rfl (fun _ h => (E.Runs.neq rfl rfl rfl h)) (fun h25 => ?_) (fun h25 => ?_)
      · refine E.GQ.doneB fun v6 lD => ?_
        replace L := below_step L lD
        have lD6 := lD
        clear lD
        refine E.QG.code ?_
        refine E.CG.cond_t rfl ?_
        refine E.CG.seq ?_
        refine E.CG.list ?_
        refine E.GL.run rfl rfl rfl (E.Runs.assign rfl rfl) ?_
        refine E.GL.done ?_
        refine E.QG.code ?_
        refine E.CG.ret ?_
        refine E.QG.block_ret ?_
        refine E.QG.pass_ret ?_
        refine E.QG.pass_ret ?_
        refine E.QG.block_ret ?_
        refine E.QG.pass_ret ?_
        exact E.QG.result rfl rfl ⟨by rw [bool_no hb (fun e => by subst e; rw [hx] at hy; cases hy; exact h25 rfl)], L⟩
      · refine E.GQ.doneB fun v6 lD => ?_
        replace L := below_step L lD
        have lD6 := lD
        clear lD
        refine E.QG.code ?_
        refine E.CG.cond_f rfl ?_
        refine E.CG.skip ?_
        refine E.QG.block_normal ?_
        refine E.QG.code ?_
        refine E.CG.list ?_
        refine E.GL.run rfl rfl rfl (E.Runs.move rfl rfl) ?_
        refine E.GL.run rfl rfl rfl (E.Runs.add rfl rfl rfl (IntWalk.i64_in _ (by omega))) ?_
        refine E.GL.run rfl rfl rfl (E.Runs.assign rfl rfl) ?_
        refine E.GL.done ?_
        exact E.QG.round (i + 1) (E.subc rfl (E.subc rfl (E.subc rfl E.subn))) ⟨by omega, L, fun j hj => (Nat.lt_or_ge j i).elim (hs j) (fun q => (show j = i by omega) ▸ (by rw [hx, hy, h25]))⟩ (by omega)
    · refine E.GL.done ?_
      refine E.QG.code ?_
      refine E.CG.cond_f rfl ?_
      refine E.CG.exit ?_
      refine E.QG.pass_exit ?_
      refine E.QG.pass_exit ?_
      refine E.QG.block_here ?_
      refine E.QG.code ?_
      refine E.CG.seq ?_
      refine E.CG.list ?_
      refine E.GL.run rfl rfl rfl (E.Runs.assign rfl rfl) ?_
      refine E.GL.done ?_
      refine E.QG.code ?_
      refine E.CG.ret ?_
      exact E.QG.result rfl rfl ⟨by rw [hb.mpr (List.ext_getElem? fun j => (Nat.lt_or_ge j i).elim (hs j) (fun q => by rw [List.getElem?_eq_none (by omega), List.getElem?_eq_none (by omega)]))], L⟩

set_option maxRecDepth 100000 in
set_option maxHeartbeats 8000000 in

theorem late_calls (m : Int) (w : World) (r : Bool) (hb : r = true ↔ late m) :
    Calls Try.prog 20 #[.int .i64 m] w fun e w' => e = .returned (.bool r) ∧ Below w.heap.size w w' := by
  unfold late at hb
  have hu3 := Try.underlying3
  refine E.enter (N := 9) Try.func20 rfl Try.ntmps20 (args := [.int .i64 m]) (by simp) ?_
  have L := Below.refl w.heap.size w
  refine E.CG.seq ?_
  refine E.CG.list ?_
  refine E.GL.run rfl rfl rfl (E.Runs.assign rfl rfl) ?_
  refine E.GL.done ?_
  refine E.QG.code ?_
  refine E.CG.seq ?_
  refine E.CG.list ?_
  refine E.GL.run rfl rfl rfl (E.Runs.move rfl rfl) ?_
  refine E.GL.cmp rfl rfl rfl (fun _ h => (E.Runs.gtr rfl rfl rfl h)) (fun h4 => ?_) (fun h4 => ?_)
  · refine E.GL.run rfl rfl rfl (E.Runs.move rfl rfl) ?_
    refine E.GL.run rfl rfl rfl (E.Runs.move rfl rfl) ?_
    refine E.GL.cmp rfl rfl rfl (fun _ h => (E.Runs.leq rfl rfl rfl h)) (fun h7 => ?_) (fun h7 => ?_)
    · refine E.GL.run rfl rfl rfl (E.Runs.pick_t rfl rfl rfl) ?_
      refine E.GL.run rfl rfl rfl (E.Runs.assign rfl rfl) ?_
      refine E.GL.done ?_
      refine E.QG.code ?_
      refine E.CG.ret ?_
      exact E.QG.result rfl rfl ⟨by rw [hb.mpr (by omega)], L⟩
    · refine E.GL.run rfl rfl rfl (E.Runs.pick_t rfl rfl rfl) ?_
      refine E.GL.run rfl rfl rfl (E.Runs.assign rfl rfl) ?_
      refine E.GL.done ?_
      refine E.QG.code ?_
      refine E.CG.ret ?_
      exact E.QG.result rfl rfl ⟨by rw [bool_no hb (by omega)], L⟩
  · refine E.GL.run rfl rfl rfl (E.Runs.move rfl rfl) ?_
    refine E.GL.skip rfl rfl rfl ?_
    refine E.GL.skip rfl rfl rfl ?_
    refine E.GL.run rfl rfl rfl (E.Runs.pick_f rfl rfl rfl) ?_
    refine E.GL.run rfl rfl rfl (E.Runs.assign rfl rfl) ?_
    refine E.GL.done ?_
    refine E.QG.code ?_
    refine E.CG.ret ?_
    exact E.QG.result rfl rfl ⟨by rw [bool_no hb (by omega)], L⟩

set_option maxRecDepth 100000 in
set_option maxHeartbeats 8000000 in

theorem far_calls (ps : List Int) (qs : List S45) (A B : Option Addr) (c d : Nat) (w : World) (r : Bool) (hP : Kd.C kI w A ps.length ps) (hQ : Kd.C k45 w B qs.length qs) (hb : r = true ↔ farH ps qs) :
    Calls Try.prog 19 #[hv ps qs A B c d] w fun e w' => e = .returned (.bool r) ∧ Below w.heap.size w w' := by
  have hu3 := Try.underlying3
  have hu22 := Try.underlying22
  have hu23 := Try.underlying23
  have hu25 := Try.underlying25
  obtain ⟨z3, o3⟩ := info_some info3s (by decide)
  obtain ⟨z22, o22⟩ := info_some info22s (by decide)
  obtain ⟨z23, o23⟩ := info_some info23s (by decide)
  obtain ⟨z25, o25⟩ := info_some info25s (by decide)
  refine E.enter (N := 27) Try.func19 rfl Try.ntmps19 (args := [hv ps qs A B c d]) (by simp) ?_
  have L := Below.refl w.heap.size w
  refine E.CG.seq ?_
  refine E.CG.list ?_
  refine E.GL.st rfl rfl rfl (E.ST.box rfl rfl fun g1 w1 e1 b1 l1 => ?_)
  have h1_L : w.heap.size ≤ g1 := by rw [e1]; exact L.size
  replace L := below_step L l1
  refine E.GL.run rfl rfl rfl (E.Runs.assign rfl rfl) ?_
  refine E.GL.done ?_
  refine E.QG.code ?_
  refine E.CG.seq ?_
  refine E.CG.list ?_
  refine E.GL.run rfl rfl rfl (E.Runs.loads (cs := [.slice A ps.length c, .slice B qs.length d]) rfl rfl hu25 rfl info25s (blk_cells b1)) ?_
  by_cases h4 : big ps qs
  · refine E.GL.st rfl rfl rfl (E.ST.call rfl ent11 (E.evc rfl E.evn) ((huge_calls ps qs A B c d _ true (iff_of_true rfl h4)).mono ?_))
    rintro e w4 ⟨rfl, l4⟩
    refine ⟨_, rfl, ?_⟩
    replace b1 := blk_below b1 l4
    replace L := below_step L l4
    refine E.GL.run rfl rfl rfl (E.Runs.move rfl rfl) ?_
    refine E.GL.skip rfl rfl rfl ?_
    refine E.GL.skip rfl rfl rfl ?_
    refine E.GL.skip rfl rfl rfl ?_
    refine E.GL.skip rfl rfl rfl ?_
    refine E.GL.skip rfl rfl rfl ?_
    refine E.GL.skip rfl rfl rfl ?_
    refine E.GL.skip rfl rfl rfl ?_
    refine E.GL.skip rfl rfl rfl ?_
    refine E.GL.skip rfl rfl rfl ?_
    refine E.GL.skip rfl rfl rfl ?_
    refine E.GL.skip rfl rfl rfl ?_
    refine E.GL.skip rfl rfl rfl ?_
    refine E.GL.skip rfl rfl rfl ?_
    refine E.GL.skip rfl rfl rfl ?_
    refine E.GL.skip rfl rfl rfl ?_
    refine E.GL.skip rfl rfl rfl ?_
    refine E.GL.skip rfl rfl rfl ?_
    refine E.GL.skip rfl rfl rfl ?_
    refine E.GL.skip rfl rfl rfl ?_
    refine E.GL.skip rfl rfl rfl ?_
    refine E.GL.run rfl rfl rfl (E.Runs.pick_t rfl rfl rfl) ?_
    refine E.GL.run rfl rfl rfl (E.Runs.assign rfl rfl) ?_
    refine E.GL.done ?_
    refine E.QG.code ?_
    refine E.CG.ret ?_
    exact E.QG.result rfl rfl ⟨by rw [hb.mpr (.inl h4)], L⟩
  · refine E.GL.st rfl rfl rfl (E.ST.call rfl ent11 (E.evc rfl E.evn) ((huge_calls ps qs A B c d _ false (iff_of_false Bool.false_ne_true h4)).mono ?_))
    rintro e w4 ⟨rfl, l4⟩
    refine ⟨_, rfl, ?_⟩
    replace b1 := blk_below b1 l4
    replace L := below_step L l4
    refine E.GL.run rfl rfl rfl (E.Runs.move rfl rfl) ?_
    refine E.GL.run rfl rfl rfl (E.Runs.loads (cs := [.slice A ps.length c, .slice B qs.length d]) rfl rfl hu25 rfl info25s (blk_cells b1)) ?_
    refine E.GL.st rfl rfl rfl (E.ST.call rfl ent15 (E.evc rfl E.evn) ((check15 ps qs A B c d _ (Kd.C_below hP L) (Kd.C_below hQ L) (by have := not_big h4; omega) (by have := not_big h4; omega)).mono ?_))
    rintro e w7 ⟨rfl, l7⟩
    refine ⟨_, rfl, ?_⟩
    replace b1 := blk_below b1 l7
    replace L := below_step L l7
    refine E.GL.cmp rfl rfl rfl (fun _ h => (E.Runs.eql rfl rfl rfl h)) (fun h8 => ?_) (fun h8 => ?_)
    · have hH : HOk ps qs := checkE_ok.mp h8
      refine E.GL.run rfl rfl rfl (E.Runs.move rfl rfl) ?_
      refine E.GL.run rfl rfl rfl (E.Runs.fieldAddr rfl rfl hu25 rfl (by assumption) rfl) ?_
      refine E.GL.run rfl rfl rfl (E.Runs.load1 rfl rfl hu22 rfl (by first | assumption | exact E.blkc (by assumption) rfl | exact pw_cell_below L (by assumption))) ?_
      refine E.GL.run rfl rfl rfl (E.Runs.len rfl rfl hu22) ?_
      refine E.GL.cmp rfl rfl rfl (fun _ h => (E.Runs.gtr rfl rfl rfl h)) (fun h13 => ?_) (fun h13 => ?_)
      · refine E.GL.run rfl rfl rfl (E.Runs.move rfl rfl) ?_
        refine E.GL.skip rfl rfl rfl ?_
        refine E.GL.skip rfl rfl rfl ?_
        refine E.GL.skip rfl rfl rfl ?_
        refine E.GL.skip rfl rfl rfl ?_
        refine E.GL.run rfl rfl rfl (E.Runs.pick_t rfl rfl rfl) ?_
        refine E.GL.run rfl rfl rfl (E.Runs.move rfl rfl) ?_
        refine E.GL.skip rfl rfl rfl ?_
        refine E.GL.skip rfl rfl rfl ?_
        refine E.GL.skip rfl rfl rfl ?_
        refine E.GL.run rfl rfl rfl (E.Runs.pick_t rfl rfl rfl) ?_
        refine E.GL.run rfl rfl rfl (E.Runs.pick_t rfl rfl rfl) ?_
        refine E.GL.run rfl rfl rfl (E.Runs.pick_f rfl rfl rfl) ?_
        refine E.GL.run rfl rfl rfl (E.Runs.assign rfl rfl) ?_
        refine E.GL.done ?_
        refine E.QG.code ?_
        refine E.CG.ret ?_
        exact E.QG.result rfl rfl ⟨by rw [hb.mpr (.inr ⟨hH, .inl (by omega)⟩)], L⟩
      · refine E.GL.run rfl rfl rfl (E.Runs.move rfl rfl) ?_
        refine E.GL.run rfl rfl rfl (E.Runs.fieldAddr rfl rfl hu25 rfl (by assumption) rfl) ?_
        refine E.GL.run rfl rfl rfl (E.Runs.load1 rfl rfl hu23 rfl (by first | assumption | exact E.blkc (by assumption) rfl | exact pw_cell_below L (by assumption))) ?_
        refine E.GL.run rfl rfl rfl (E.Runs.len rfl rfl hu23) ?_
        refine E.GL.cmp rfl rfl rfl (fun _ h => (E.Runs.gtr rfl rfl rfl h)) (fun h18 => ?_) (fun h18 => ?_)
        · refine E.GL.run rfl rfl rfl (E.Runs.pick_f rfl rfl rfl) ?_
          refine E.GL.run rfl rfl rfl (E.Runs.move rfl rfl) ?_
          refine E.GL.skip rfl rfl rfl ?_
          refine E.GL.skip rfl rfl rfl ?_
          refine E.GL.skip rfl rfl rfl ?_
          refine E.GL.run rfl rfl rfl (E.Runs.pick_t rfl rfl rfl) ?_
          refine E.GL.run rfl rfl rfl (E.Runs.pick_t rfl rfl rfl) ?_
          refine E.GL.run rfl rfl rfl (E.Runs.pick_f rfl rfl rfl) ?_
          refine E.GL.run rfl rfl rfl (E.Runs.assign rfl rfl) ?_
          refine E.GL.done ?_
          refine E.QG.code ?_
          refine E.CG.ret ?_
          exact E.QG.result rfl rfl ⟨by rw [hb.mpr (.inr ⟨hH, .inr (.inl (by omega))⟩)], L⟩
        · refine E.GL.run rfl rfl rfl (E.Runs.pick_f rfl rfl rfl) ?_
          refine E.GL.run rfl rfl rfl (E.Runs.move rfl rfl) ?_
          refine E.GL.run rfl rfl rfl (E.Runs.loads (cs := [.slice A ps.length c, .slice B qs.length d]) rfl rfl hu25 rfl info25s (blk_cells b1)) ?_
          refine E.GL.st rfl rfl rfl (E.ST.call rfl ent29 (E.evc rfl E.evn) ((all_calls ps qs A B c d _ (Kd.C_below hP L) hH.p (by have := not_big h4; omega)).mono ?_))
          rintro e w22 ⟨rfl, l22⟩
          refine ⟨_, rfl, ?_⟩
          replace b1 := blk_below b1 l22
          replace L := below_step L l22
          refine E.GL.cmp rfl rfl rfl (fun _ h => (E.Runs.gtr rfl rfl rfl h)) (fun h23 => ?_) (fun h23 => ?_)
          · refine E.GL.run rfl rfl rfl (E.Runs.pick_f rfl rfl rfl) ?_
            refine E.GL.run rfl rfl rfl (E.Runs.pick_t rfl rfl rfl) ?_
            refine E.GL.run rfl rfl rfl (E.Runs.pick_f rfl rfl rfl) ?_
            refine E.GL.run rfl rfl rfl (E.Runs.assign rfl rfl) ?_
            refine E.GL.done ?_
            refine E.QG.code ?_
            refine E.CG.ret ?_
            exact E.QG.result rfl rfl ⟨by rw [hb.mpr (.inr ⟨hH, .inr (.inr (by omega))⟩)], L⟩
          · refine E.GL.run rfl rfl rfl (E.Runs.pick_f rfl rfl rfl) ?_
            refine E.GL.run rfl rfl rfl (E.Runs.pick_t rfl rfl rfl) ?_
            refine E.GL.run rfl rfl rfl (E.Runs.pick_f rfl rfl rfl) ?_
            refine E.GL.run rfl rfl rfl (E.Runs.assign rfl rfl) ?_
            refine E.GL.done ?_
            refine E.QG.code ?_
            refine E.CG.ret ?_
            exact E.QG.result rfl rfl ⟨by rw [bool_no hb (fun k => k.elim h4 (fun k => by have := k.2; omega))], L⟩
    · have hH : ¬ HOk ps qs := fun k => h8 (checkE_yes k)
      refine E.GL.run rfl rfl rfl (E.Runs.move rfl rfl) ?_
      refine E.GL.skip rfl rfl rfl ?_
      refine E.GL.skip rfl rfl rfl ?_
      refine E.GL.skip rfl rfl rfl ?_
      refine E.GL.skip rfl rfl rfl ?_
      refine E.GL.skip rfl rfl rfl ?_
      refine E.GL.skip rfl rfl rfl ?_
      refine E.GL.skip rfl rfl rfl ?_
      refine E.GL.skip rfl rfl rfl ?_
      refine E.GL.skip rfl rfl rfl ?_
      refine E.GL.skip rfl rfl rfl ?_
      refine E.GL.skip rfl rfl rfl ?_
      refine E.GL.skip rfl rfl rfl ?_
      refine E.GL.skip rfl rfl rfl ?_
      refine E.GL.skip rfl rfl rfl ?_
      refine E.GL.skip rfl rfl rfl ?_
      refine E.GL.run rfl rfl rfl (E.Runs.pick_f rfl rfl rfl) ?_
      refine E.GL.run rfl rfl rfl (E.Runs.pick_f rfl rfl rfl) ?_
      refine E.GL.run rfl rfl rfl (E.Runs.assign rfl rfl) ?_
      refine E.GL.done ?_
      refine E.QG.code ?_
      refine E.CG.ret ?_
      exact E.QG.result rfl rfl ⟨by rw [bool_no hb (fun k => k.elim h4 (fun k => hH k.1))], L⟩

set_option maxRecDepth 100000 in
set_option maxHeartbeats 8000000 in

theorem ready_calls (ps : List Int) (qs : List S45) (A B : Option Addr) (c d : Nat) (w : World) (r : Bool) (hP : Kd.C kI w A ps.length ps) (hQ : Kd.C k45 w B qs.length qs) (m : Int) (hb : r = true ↔ ready ps qs m) :
    Calls Try.prog 27 #[hv ps qs A B c d, .int .i64 m] w fun e w' => e = .returned (.bool r) ∧ Below w.heap.size w w' := by
  have hu3 := Try.underlying3
  have hu25 := Try.underlying25
  obtain ⟨z3, o3⟩ := info_some info3s (by decide)
  obtain ⟨z25, o25⟩ := info_some info25s (by decide)
  refine E.enter (N := 26) Try.func27 rfl Try.ntmps27 (args := [hv ps qs A B c d, .int .i64 m]) (by simp) ?_
  have L := Below.refl w.heap.size w
  refine E.CG.seq ?_
  refine E.CG.list ?_
  refine E.GL.st rfl rfl rfl (E.ST.box rfl rfl fun g2 w2 e2 b2 l2 => ?_)
  have h2_L : w.heap.size ≤ g2 := by rw [e2]; exact L.size
  replace L := below_step L l2
  refine E.GL.run rfl rfl rfl (E.Runs.assign rfl rfl) ?_
  refine E.GL.done ?_
  refine E.QG.code ?_
  refine E.CG.seq ?_
  refine E.CG.list ?_
  refine E.GL.run rfl rfl rfl (E.Runs.loads (cs := [.slice A ps.length c, .slice B qs.length d]) rfl rfl hu25 rfl info25s (blk_cells b2)) ?_
  by_cases h6 : farH ps qs
  · refine E.GL.st rfl rfl rfl (E.ST.call rfl ent19 (E.evc rfl E.evn) ((far_calls ps qs A B c d _ true (Kd.C_below hP L) (Kd.C_below hQ L) (iff_of_true rfl h6)).mono ?_))
    rintro e w6 ⟨rfl, l6⟩
    refine ⟨_, rfl, ?_⟩
    replace b2 := blk_below b2 l6
    replace L := below_step L l6
    refine E.GL.run rfl rfl rfl (E.Runs.not rfl rfl) ?_
    refine E.GL.run rfl rfl rfl (E.Runs.move rfl rfl) ?_
    refine E.GL.skip rfl rfl rfl ?_
    refine E.GL.skip rfl rfl rfl ?_
    refine E.GL.skip rfl rfl rfl ?_
    refine E.GL.run rfl rfl rfl (E.Runs.pick_f rfl rfl rfl) ?_
    refine E.GL.run rfl rfl rfl (E.Runs.move rfl rfl) ?_
    refine E.GL.skip rfl rfl rfl ?_
    refine E.GL.skip rfl rfl rfl ?_
    refine E.GL.skip rfl rfl rfl ?_
    refine E.GL.run rfl rfl rfl (E.Runs.pick_f rfl rfl rfl) ?_
    refine E.GL.run rfl rfl rfl (E.Runs.move rfl rfl) ?_
    refine E.GL.skip rfl rfl rfl ?_
    refine E.GL.skip rfl rfl rfl ?_
    refine E.GL.run rfl rfl rfl (E.Runs.pick_f rfl rfl rfl) ?_
    refine E.GL.run rfl rfl rfl (E.Runs.move rfl rfl) ?_
    refine E.GL.skip rfl rfl rfl ?_
    refine E.GL.skip rfl rfl rfl ?_
    refine E.GL.run rfl rfl rfl (E.Runs.pick_f rfl rfl rfl) ?_
    refine E.GL.run rfl rfl rfl (E.Runs.assign rfl rfl) ?_
    refine E.GL.done ?_
    refine E.QG.code ?_
    refine E.CG.ret ?_
    exact E.QG.result rfl rfl ⟨by rw [bool_no hb (fun k => k.1 h6)], L⟩
  · refine E.GL.st rfl rfl rfl (E.ST.call rfl ent19 (E.evc rfl E.evn) ((far_calls ps qs A B c d _ false (Kd.C_below hP L) (Kd.C_below hQ L) (iff_of_false Bool.false_ne_true h6)).mono ?_))
    rintro e w6 ⟨rfl, l6⟩
    refine ⟨_, rfl, ?_⟩
    replace b2 := blk_below b2 l6
    replace L := below_step L l6
    refine E.GL.run rfl rfl rfl (E.Runs.not rfl rfl) ?_
    refine E.GL.run rfl rfl rfl (E.Runs.move rfl rfl) ?_
    refine E.GL.run rfl rfl rfl (E.Runs.move rfl rfl) ?_
    by_cases h10 : late m
    · refine E.GL.st rfl rfl rfl (E.ST.call rfl ent20 (E.evc rfl E.evn) ((late_calls m _ true (iff_of_true rfl h10)).mono ?_))
      rintro e w10 ⟨rfl, l10⟩
      refine ⟨_, rfl, ?_⟩
      replace b2 := blk_below b2 l10
      replace L := below_step L l10
      refine E.GL.run rfl rfl rfl (E.Runs.not rfl rfl) ?_
      refine E.GL.run rfl rfl rfl (E.Runs.pick_t rfl rfl rfl) ?_
      refine E.GL.run rfl rfl rfl (E.Runs.move rfl rfl) ?_
      refine E.GL.skip rfl rfl rfl ?_
      refine E.GL.skip rfl rfl rfl ?_
      refine E.GL.skip rfl rfl rfl ?_
      refine E.GL.run rfl rfl rfl (E.Runs.pick_f rfl rfl rfl) ?_
      refine E.GL.run rfl rfl rfl (E.Runs.move rfl rfl) ?_
      refine E.GL.skip rfl rfl rfl ?_
      refine E.GL.skip rfl rfl rfl ?_
      refine E.GL.run rfl rfl rfl (E.Runs.pick_f rfl rfl rfl) ?_
      refine E.GL.run rfl rfl rfl (E.Runs.move rfl rfl) ?_
      refine E.GL.skip rfl rfl rfl ?_
      refine E.GL.skip rfl rfl rfl ?_
      refine E.GL.run rfl rfl rfl (E.Runs.pick_f rfl rfl rfl) ?_
      refine E.GL.run rfl rfl rfl (E.Runs.assign rfl rfl) ?_
      refine E.GL.done ?_
      refine E.QG.code ?_
      refine E.CG.ret ?_
      exact E.QG.result rfl rfl ⟨by rw [bool_no hb (fun k => k.2.1 h10)], L⟩
    · refine E.GL.st rfl rfl rfl (E.ST.call rfl ent20 (E.evc rfl E.evn) ((late_calls m _ false (iff_of_false Bool.false_ne_true h10)).mono ?_))
      rintro e w10 ⟨rfl, l10⟩
      refine ⟨_, rfl, ?_⟩
      replace b2 := blk_below b2 l10
      replace L := below_step L l10
      refine E.GL.run rfl rfl rfl (E.Runs.not rfl rfl) ?_
      refine E.GL.run rfl rfl rfl (E.Runs.pick_t rfl rfl rfl) ?_
      refine E.GL.run rfl rfl rfl (E.Runs.move rfl rfl) ?_
      refine E.GL.run rfl rfl rfl (E.Runs.loads (cs := [.slice A ps.length c, .slice B qs.length d]) rfl rfl hu25 rfl info25s (blk_cells b2)) ?_
      refine E.GL.st rfl rfl rfl (E.ST.call rfl ent15 (E.evc rfl E.evn) ((check15 ps qs A B c d _ (Kd.C_below hP L) (Kd.C_below hQ L) (by have := not_far h6; omega) (by have := not_far h6; omega)).mono ?_))
      rintro e w15 ⟨rfl, l15⟩
      refine ⟨_, rfl, ?_⟩
      replace b2 := blk_below b2 l15
      replace L := below_step L l15
      refine E.GL.cmp rfl rfl rfl (fun _ h => (E.Runs.eql rfl rfl rfl h)) (fun h16 => ?_) (fun h16 => ?_)
      · have hH : HOk ps qs := checkE_ok.mp h16
        refine E.GL.run rfl rfl rfl (E.Runs.pick_t rfl rfl rfl) ?_
        refine E.GL.run rfl rfl rfl (E.Runs.move rfl rfl) ?_
        refine E.GL.run rfl rfl rfl (E.Runs.move rfl rfl) ?_
        refine E.GL.cmp rfl rfl rfl (fun _ h => (E.Runs.geq rfl rfl rfl h)) (fun h20 => ?_) (fun h20 => ?_)
        · refine E.GL.run rfl rfl rfl (E.Runs.pick_t rfl rfl rfl) ?_
          refine E.GL.run rfl rfl rfl (E.Runs.move rfl rfl) ?_
          refine E.GL.run rfl rfl rfl (E.Runs.move rfl rfl) ?_
          refine E.GL.cmp rfl rfl rfl (fun _ h => (E.Runs.leq rfl rfl rfl h)) (fun h24 => ?_) (fun h24 => ?_)
          · refine E.GL.run rfl rfl rfl (E.Runs.pick_t rfl rfl rfl) ?_
            refine E.GL.run rfl rfl rfl (E.Runs.assign rfl rfl) ?_
            refine E.GL.done ?_
            refine E.QG.code ?_
            refine E.CG.ret ?_
            exact E.QG.result rfl rfl ⟨by rw [hb.mpr (⟨h6, h10, hH, by omega, by omega⟩)], L⟩
          · refine E.GL.run rfl rfl rfl (E.Runs.pick_t rfl rfl rfl) ?_
            refine E.GL.run rfl rfl rfl (E.Runs.assign rfl rfl) ?_
            refine E.GL.done ?_
            refine E.QG.code ?_
            refine E.CG.ret ?_
            exact E.QG.result rfl rfl ⟨by rw [bool_no hb (fun k => by have := k.2.2.2; omega)], L⟩
        · refine E.GL.run rfl rfl rfl (E.Runs.pick_t rfl rfl rfl) ?_
          refine E.GL.run rfl rfl rfl (E.Runs.move rfl rfl) ?_
          refine E.GL.skip rfl rfl rfl ?_
          refine E.GL.skip rfl rfl rfl ?_
          refine E.GL.run rfl rfl rfl (E.Runs.pick_f rfl rfl rfl) ?_
          refine E.GL.run rfl rfl rfl (E.Runs.assign rfl rfl) ?_
          refine E.GL.done ?_
          refine E.QG.code ?_
          refine E.CG.ret ?_
          exact E.QG.result rfl rfl ⟨by rw [bool_no hb (fun k => by have := k.2.2.2; omega)], L⟩
      · have hH : ¬ HOk ps qs := fun k => h16 (checkE_yes k)
        refine E.GL.run rfl rfl rfl (E.Runs.pick_t rfl rfl rfl) ?_
        refine E.GL.run rfl rfl rfl (E.Runs.move rfl rfl) ?_
        refine E.GL.skip rfl rfl rfl ?_
        refine E.GL.skip rfl rfl rfl ?_
        refine E.GL.run rfl rfl rfl (E.Runs.pick_f rfl rfl rfl) ?_
        refine E.GL.run rfl rfl rfl (E.Runs.move rfl rfl) ?_
        refine E.GL.skip rfl rfl rfl ?_
        refine E.GL.skip rfl rfl rfl ?_
        refine E.GL.run rfl rfl rfl (E.Runs.pick_f rfl rfl rfl) ?_
        refine E.GL.run rfl rfl rfl (E.Runs.assign rfl rfl) ?_
        refine E.GL.done ?_
        refine E.QG.code ?_
        refine E.CG.ret ?_
        exact E.QG.result rfl rfl ⟨by rw [bool_no hb (fun k => hH k.2.2.1)], L⟩

end Go.Proofs.Ytmnjlnkfihklgaa.T
namespace Go.Proofs.Ytmnjlnkfihklgaa.T
open Go.RowKit Go.Proofs.YtmnjlnkfihklgaaW.PrintWords Go.Proofs.YtmnjlnkfihklgaaW.PrintMore
open Go.Proofs.Ytmnjlnkfihklgaa.P
set_option linter.unusedVariables false
set_option linter.unusedSimpArgs false

/-- A row of structs written out, in a block of ours. -/
theorem flat_get {α : Type} (enc : α → List Value) (sz : Nat) (hsz : ∀ x, (enc x).length = sz) : ∀ (l : List α) (j i : Nat) (p : α), l[j]? = some p → i < sz → (l.flatMap enc)[j * sz + i]? = (enc p)[i]?
  | [], j, i, p, h, _ => by simp at h
  | x :: l, 0, i, p, h, hi => by
    obtain rfl : x = p := by simpa using h
    rw [List.flatMap_cons, Nat.zero_mul, Nat.zero_add, List.getElem?_append_left (by rw [hsz]; exact hi)]
  | x :: l, j + 1, i, p, h, hi => by
    rw [List.flatMap_cons, List.getElem?_append_right (by rw [hsz, Nat.add_mul]; omega), hsz, show (j + 1) * sz + i - sz = j * sz + i by rw [Nat.add_mul]; omega]
    exact flat_get enc sz hsz l j i p (by simpa using h) hi
theorem C_flat {α : Type} (d : Kd α) (enc : α → List Value) (hsz : ∀ x, (enc x).length = d.sz) (hK : ∀ (w : World) x, d.K w x (enc x)) {w : World} {g e : Nat} (l : List α) (hl : l.length ≤ 1000000) (hb : w.heap[g]? = some (.cells (l.flatMap enc).toArray e (0, 0))) : Kd.C d w (some ⟨g, 0, none⟩) l.length l := by
  refine ⟨rfl, by omega, fun _ => ⟨_, rfl, ?_⟩⟩
  intro j p hj
  refine ⟨enc p, hsz p, hK w p, fun i u hu => ?_⟩
  have hi : i < d.sz := by rw [← hsz p]; exact (List.getElem?_eq_some_iff.1 hu).1
  rw [Addr.add_mid, Nat.zero_add, blk_cell hb]
  rw [List.getElem?_toArray, flat_get enc d.sz hsz l j i p hj hi]
  exact hu
def four45 (x : S45) : List Value := [.int .i64 x.f0, .int .i64 x.f1, .int .i64 x.f2, .int .i64 x.f3]
def three35 (x : S35) : List Value := [.int .i64 x.f0, .int .i64 x.f1, .int .i64 x.f2]
theorem C_45 {w : World} {g : Nat} (l : List S45) (hl : l.length ≤ 1000000) (hb : w.heap[g]? = some (.cells (l.flatMap four45).toArray 45 (0, 0))) : Kd.C k45 w (some ⟨g, 0, none⟩) l.length l := C_flat k45 four45 (fun _ => rfl) (fun w x => k45_mk w x) l hl hb
theorem C_35 {w : World} {g : Nat} (l : List S35) (hl : l.length ≤ 1000000) (hb : w.heap[g]? = some (.cells (l.flatMap three35).toArray 35 (0, 0))) : Kd.C k35 w (some ⟨g, 0, none⟩) l.length l := C_flat k35 three35 (fun _ => rfl) (fun w x => k35_mk w x) l hl hb
set_option maxRecDepth 100000 in
theorem lit22_2 (W : World) : (Instr.buildSlice 22 2 #[(0, .int .i64 5), (1, .int .i64 4)]).run Try.prog W = .ok (.slice (some ⟨W.heap.size, 0, none⟩) 2 2) (W.alloc (.cells #[.int .i64 5, .int .i64 4] 3 (0, 0))) := by
  have hu22 := Try.underlying22
  go_simp
set_option maxRecDepth 100000 in
theorem lit22_3 (W : World) : (Instr.buildSlice 22 3 #[(0, .int .i64 0), (1, .int .i64 1), (2, .int .i64 2)]).run Try.prog W = .ok (.slice (some ⟨W.heap.size, 0, none⟩) 3 3) (W.alloc (.cells #[.int .i64 0, .int .i64 1, .int .i64 2] 3 (0, 0))) := by
  have hu22 := Try.underlying22
  go_simp
set_option maxRecDepth 100000 in
theorem lit23_4 (W : World) : (Instr.buildSlice 23 4 #[(0, .agg #[.int .i64 0, .int .i64 1, .int .i64 2, .int .i64 1]), (1, .agg #[.int .i64 0, .int .i64 (-1), .int .i64 1, .int .i64 2]), (2, .agg #[.int .i64 1, .int .i64 (-1), .int .i64 3, .int .i64 1]), (3, .agg #[.int .i64 1, .int .i64 0, .int .i64 1, .int .i64 1])]).run Try.prog W = .ok (.slice (some ⟨W.heap.size, 0, none⟩) 4 4) (W.alloc (.cells (eQ.flatMap four45).toArray 45 (0, 0))) := by
  have hu23 := Try.underlying23
  go_simp
  rfl
set_option maxRecDepth 100000 in
theorem lit26_4 (W : World) : (Instr.buildSlice 26 4 #[(0, .agg #[.int .i64 0, .int .i64 0, .int .i64 2]), (1, .agg #[.int .i64 0, .int .i64 1, .int .i64 1]), (2, .agg #[.int .i64 0, .int .i64 2, .int .i64 3]), (3, .agg #[.int .i64 1, .int .i64 2, .int .i64 3])]).run Try.prog W = .ok (.slice (some ⟨W.heap.size, 0, none⟩) 4 4) (W.alloc (.cells (eL.flatMap three35).toArray 35 (0, 0))) := by
  have hu26 := Try.underlying26
  go_simp
  rfl
set_option maxRecDepth 100000 in
theorem build45 (a b c d : Int) (W : World) : (Instr.build 45 #[(0, .int .i64 a), (1, .int .i64 b), (2, .int .i64 c), (3, .int .i64 d)]).run Try.prog W = .ok (.agg #[.int .i64 a, .int .i64 b, .int .i64 c, .int .i64 d]) W := by
  have hu3 := Try.underlying3
  have hu45 := Try.underlying45
  go_simp
set_option maxRecDepth 100000 in
theorem build35a (c : Int) (W : World) : (Instr.build 35 #[(2, .int .i64 c)]).run Try.prog W = .ok (.agg #[.int .i64 0, .int .i64 0, .int .i64 c]) W := by
  have hu3 := Try.underlying3
  have hu35 := Try.underlying35
  go_simp
set_option maxRecDepth 100000 in
theorem build35b (b c : Int) (W : World) : (Instr.build 35 #[(1, .int .i64 b), (2, .int .i64 c)]).run Try.prog W = .ok (.agg #[.int .i64 0, .int .i64 b, .int .i64 c]) W := by
  have hu3 := Try.underlying3
  have hu35 := Try.underlying35
  go_simp
set_option maxRecDepth 100000 in
theorem build35c (a b c : Int) (W : World) : (Instr.build 35 #[(0, .int .i64 a), (1, .int .i64 b), (2, .int .i64 c)]).run Try.prog W = .ok (.agg #[.int .i64 a, .int .i64 b, .int .i64 c]) W := by
  have hu3 := Try.underlying3
  have hu35 := Try.underlying35
  go_simp
set_option maxRecDepth 100000 in
set_option maxHeartbeats 8000000 in

theorem example_calls (w : World) :
    Calls Try.prog 37 #[] w fun e w' => ∃ A B c d, e = .returned (hv eP eQ A B c d) ∧ Kd.C kI w' A eP.length eP ∧ Kd.C k45 w' B eQ.length eQ ∧ Below w.heap.size w w' := by
  have hu25 := Try.underlying25
  refine E.enter (N := 8) Try.func37 rfl Try.ntmps37 (args := []) (by simp) ?_
  have L := Below.refl w.heap.size w
  refine E.CG.seq ?_
  refine E.CG.list ?_
  refine E.GL.st rfl rfl rfl (E.ST.alloc rfl info25z fun g0 w0 e0 b0 l0 => ?_)
  have h0_L : w.heap.size ≤ g0 := by rw [e0]; exact L.size
  replace L := below_step L l0
  refine E.GL.done ?_
  refine E.QG.code ?_
  refine E.CG.seq ?_
  refine E.CG.list ?_
  refine E.GL.st rfl rfl rfl (E.ST.litB (cs := (([5, 4] : List Int).map (Value.int .i64)).toArray) rfl (E.epc rfl (E.epc rfl E.epn)) lit22_2 fun g1 w1 e1 b1 l1 => ?_)
  have h1_L : w.heap.size ≤ g1 := by rw [e1]; exact L.size
  have n1_b0 : g0 ≠ g1 := by have := blk_lt b0; omega
  replace b0 := blk_below b0 l1
  replace L := below_step L l1
  refine E.GL.run rfl rfl rfl (E.Runs.build rfl (E.epc rfl (E.epc rfl (E.epc rfl (E.epc rfl E.epn)))) (build45 _ _ _ _)) ?_
  refine E.GL.run rfl rfl rfl (E.Runs.build rfl (E.epc rfl (E.epc rfl (E.epc rfl (E.epc rfl E.epn)))) (build45 _ _ _ _)) ?_
  refine E.GL.run rfl rfl rfl (E.Runs.build rfl (E.epc rfl (E.epc rfl (E.epc rfl (E.epc rfl E.epn)))) (build45 _ _ _ _)) ?_
  refine E.GL.run rfl rfl rfl (E.Runs.build rfl (E.epc rfl (E.epc rfl (E.epc rfl (E.epc rfl E.epn)))) (build45 _ _ _ _)) ?_
  refine E.GL.st rfl rfl rfl (E.ST.litB (cs := (eQ.flatMap four45).toArray) rfl (E.epc rfl (E.epc rfl (E.epc rfl (E.epc rfl E.epn)))) lit23_4 fun g6 w6 e6 b6 l6 => ?_)
  have h6_L : w.heap.size ≤ g6 := by rw [e6]; exact L.size
  have n6_b0 : g0 ≠ g6 := by have := blk_lt b0; omega
  have n6_b1 : g1 ≠ g6 := by have := blk_lt b1; omega
  replace b0 := blk_below b0 l6
  replace b1 := blk_below b1 l6
  replace L := below_step L l6
  refine E.GL.run rfl rfl rfl (E.Runs.build rfl (E.epc rfl (E.epc rfl E.epn)) (build25 _ _ _ _ _ _)) ?_
  refine E.GL.store_whole rfl rfl rfl rfl rfl b0 rfl info25s (slices_one _ _ _ _ _ _) fun wS1_7 c0 lS1_7 => ?_
  replace b1 := blk_grown b1 lS1_7 (E.nes (by first | assumption | exact Ne.symm (by assumption)))
  replace b6 := blk_grown b6 lS1_7 (E.nes (by first | assumption | exact Ne.symm (by assumption)))
  replace L := E.below_own L h0_L lS1_7
  replace b0 := c0
  clear c0
  refine E.GL.done ?_
  refine E.QG.code ?_
  refine E.CG.ret ?_
  exact E.QG.result_c rfl rfl b0 hu25 rfl info25s ⟨_, _, _, _, rfl, C_nums [5, 4] b1 (by decide), C_45 eQ (by decide) b6, L⟩

set_option maxRecDepth 100000 in
set_option maxHeartbeats 8000000 in

theorem works_calls (w : World) :
    Calls Try.prog 12 #[] w fun e w' => e = .returned (.bool true) ∧ Below w.heap.size w w' := by
  have hu3 := Try.underlying3
  have hu22 := Try.underlying22
  have hu25 := Try.underlying25
  have hu26 := Try.underlying26
  refine E.enter (N := 67) Try.func12 rfl Try.ntmps12 (args := []) (by simp) ?_
  have L := Below.refl w.heap.size w
  refine E.CG.seq ?_
  refine E.CG.list ?_
  refine E.GL.run rfl rfl rfl (E.Runs.assign rfl rfl) ?_
  refine E.GL.done ?_
  refine E.QG.code ?_
  refine E.CG.seq ?_
  refine E.CG.list ?_
  refine E.GL.st rfl rfl rfl (E.ST.call rfl ent37 E.evn ((example_calls _).mono ?_))
  rintro e w10 ⟨A, B, c, d, rfl, hC, hD, l10⟩
  refine ⟨_, rfl, ?_⟩
  replace L := below_step L l10
  have lo := Below.refl w10.heap.size w10
  refine E.GL.st rfl rfl rfl (E.ST.alloc rfl info25z fun g1 w1 e1 b1 l1 => ?_)
  have h1_L : w.heap.size ≤ g1 := by rw [e1]; exact L.size
  have h1_lo : w10.heap.size ≤ g1 := by rw [e1]; exact lo.size
  replace L := below_step L l1
  replace lo := below_step lo l1
  refine E.GL.store_whole rfl rfl rfl rfl rfl b1 rfl info25s (slices_one _ _ _ _ _ _) fun wS1_2 c1 lS1_2 => ?_
  replace L := E.below_own L h1_L lS1_2
  replace lo := E.below_own lo h1_lo lS1_2
  replace b1 := c1
  clear c1
  refine E.GL.done ?_
  refine E.QG.code ?_
  refine E.CG.seq ?_
  refine E.CG.list ?_
  refine E.GL.run rfl rfl rfl (E.Runs.loads (cs := [.slice A 2 c, .slice B 4 d]) rfl rfl hu25 rfl info25s (blk_cells b1)) ?_
  refine E.GL.st rfl rfl rfl (E.ST.call rfl ent28 (E.evc rfl (E.evc rfl E.evn)) ((most_calls eP eQ A B c d _ (Kd.C_below hC lo) (Kd.C_below hD lo) (by decide) (by decide) 2).mono ?_))
  rintro e w13 ⟨N13, rfl, hN13, l13⟩
  refine ⟨_, rfl, ?_⟩
  replace b1 := blk_below b1 l13
  replace L := below_step L l13
  replace lo := below_step lo l13
  obtain rfl := eMostR hN13
  rw [eChk 2 (by decide)]
  refine E.GL.run rfl rfl rfl (E.Runs.move rfl rfl) ?_
  refine E.GL.run rfl rfl rfl (E.Runs.extract rfl rfl rfl) ?_
  refine E.GL.run rfl rfl rfl (E.Runs.extract rfl rfl rfl) ?_
  refine E.GL.run rfl rfl rfl (E.Runs.assign rfl rfl) ?_
  refine E.GL.run rfl rfl rfl (E.Runs.assign rfl rfl) ?_
  refine E.GL.done ?_
  refine E.QG.code ?_
  refine E.CG.seq ?_
  refine E.CG.list ?_
  refine E.GL.run rfl rfl rfl (E.Runs.loads (cs := [.slice A 2 c, .slice B 4 d]) rfl rfl hu25 rfl info25s (blk_cells b1)) ?_
  refine E.GL.st rfl rfl rfl (E.ST.call rfl ent21 (E.evc rfl E.evn) ((empty_calls eP eQ A B c d _ (Kd.C_below hC lo) (Kd.C_below hD lo) (by decide) (by decide)).mono ?_))
  rintro e w18 ⟨N18, E18, rfl, hE18, l18⟩
  refine ⟨_, rfl, ?_⟩
  replace b1 := blk_below b1 l18
  replace L := below_step L l18
  replace lo := below_step lo l18
  obtain ⟨rfl, rfl⟩ := eEmptyR hE18
  refine E.GL.run rfl rfl rfl (E.Runs.move rfl rfl) ?_
  refine E.GL.run rfl rfl rfl (E.Runs.extract rfl rfl rfl) ?_
  refine E.GL.run rfl rfl rfl (E.Runs.extract rfl rfl rfl) ?_
  refine E.GL.run rfl rfl rfl (E.Runs.assign rfl rfl) ?_
  refine E.GL.run rfl rfl rfl (E.Runs.assign rfl rfl) ?_
  refine E.GL.done ?_
  refine E.QG.code ?_
  refine E.CG.seq ?_
  refine E.CG.list ?_
  refine E.GL.run rfl rfl rfl (E.Runs.loads (cs := [.slice A 2 c, .slice B 4 d]) rfl rfl hu25 rfl info25s (blk_cells b1)) ?_
  refine E.GL.st rfl rfl rfl (E.ST.call rfl ent25 (E.evc rfl (E.evc rfl E.evn)) ((needed_calls eP eQ A B c d _ (Kd.C_below hC lo) (Kd.C_below hD lo) (by decide) (by decide) 3).mono ?_))
  rintro e w23 ⟨v23, l23, rfl, R23, hL23, l23⟩
  refine ⟨_, rfl, ?_⟩
  replace b1 := blk_below b1 l23
  replace L := below_step L l23
  replace lo := below_step lo l23
  have lx := Below.refl w23.heap.size w23
  obtain rfl := eNeedR hL23
  rw [eChk 3 (by decide)]
  obtain ⟨A23, c23, hv23⟩ := Kd.R_slice R23
  subst hv23
  obtain ⟨_, _, C23⟩ := Kd.R_reads' R23
  refine E.GL.run rfl rfl rfl (E.Runs.move rfl rfl) ?_
  refine E.GL.run rfl rfl rfl (E.Runs.extract rfl rfl rfl) ?_
  refine E.GL.run rfl rfl rfl (E.Runs.extract rfl rfl rfl) ?_
  refine E.GL.run rfl rfl rfl (E.Runs.assign rfl rfl) ?_
  refine E.GL.run rfl rfl rfl (E.Runs.assign rfl rfl) ?_
  refine E.GL.done ?_
  refine E.QG.code ?_
  refine E.CG.seq ?_
  refine E.CG.list ?_
  refine E.GL.run rfl rfl rfl (E.Runs.loads (cs := [.slice A 2 c, .slice B 4 d]) rfl rfl hu25 rfl info25s (blk_cells b1)) ?_
  refine E.GL.run rfl rfl rfl (E.Runs.build rfl (E.epc rfl E.epn) (build35a _)) ?_
  refine E.GL.run rfl rfl rfl (E.Runs.build rfl (E.epc rfl (E.epc rfl E.epn)) (build35b _ _)) ?_
  refine E.GL.run rfl rfl rfl (E.Runs.build rfl (E.epc rfl (E.epc rfl E.epn)) (build35b _ _)) ?_
  refine E.GL.run rfl rfl rfl (E.Runs.build rfl (E.epc rfl (E.epc rfl (E.epc rfl E.epn))) (build35c _ _ _)) ?_
  refine E.GL.st rfl rfl rfl (E.ST.litB (cs := (eL.flatMap three35).toArray) rfl (E.epc rfl (E.epc rfl (E.epc rfl (E.epc rfl E.epn)))) lit26_4 fun g32 w32 e32 b32 l32 => ?_)
  have h32_L : w.heap.size ≤ g32 := by rw [e32]; exact L.size
  have h32_lo : w10.heap.size ≤ g32 := by rw [e32]; exact lo.size
  have h32_lx : w23.heap.size ≤ g32 := by rw [e32]; exact lx.size
  have n32_b1 : g1 ≠ g32 := by have := blk_lt b1; omega
  replace b1 := blk_below b1 l32
  replace L := below_step L l32
  replace lo := below_step lo l32
  replace lx := below_step lx l32
  refine E.GL.st rfl rfl rfl (E.ST.call rfl ent16 (E.evc rfl (E.evc rfl (E.evc rfl E.evn))) ((goneP_calls eP eQ A B _ c d 4 2 eL _ (Kd.C_below hC lo) (Kd.C_below hD lo) (C_35 eL (by decide) b32) (by decide) (by decide) (by decide)).mono ?_))
  rintro e w33 ⟨N33, E33, rfl, hG33, l33⟩
  refine ⟨_, rfl, ?_⟩
  replace b1 := blk_below b1 l33
  replace b32 := blk_below b32 l33
  replace L := below_step L l33
  replace lo := below_step lo l33
  replace lx := below_step lx l33
  obtain ⟨rfl, rfl⟩ := eGoneR hG33
  refine E.GL.run rfl rfl rfl (E.Runs.move rfl rfl) ?_
  refine E.GL.run rfl rfl rfl (E.Runs.extract rfl rfl rfl) ?_
  refine E.GL.run rfl rfl rfl (E.Runs.extract rfl rfl rfl) ?_
  refine E.GL.run rfl rfl rfl (E.Runs.assign rfl rfl) ?_
  refine E.GL.run rfl rfl rfl (E.Runs.assign rfl rfl) ?_
  refine E.GL.done ?_
  refine E.QG.code ?_
  refine E.CG.seq ?_
  refine E.CG.list ?_
  refine E.GL.run rfl rfl rfl (E.Runs.move rfl rfl) ?_
  refine E.GL.run rfl rfl rfl (E.Runs.eql rfl rfl rfl (decide_eq_true rfl)) ?_
  refine E.GL.run rfl rfl rfl (E.Runs.move rfl rfl) ?_
  refine E.GL.run rfl rfl rfl (E.Runs.move rfl rfl) ?_
  refine E.GL.run rfl rfl rfl (E.Runs.eql rfl rfl rfl (decide_eq_true rfl)) ?_
  refine E.GL.run rfl rfl rfl (E.Runs.pick_t rfl rfl rfl) ?_
  refine E.GL.run rfl rfl rfl (E.Runs.move rfl rfl) ?_
  refine E.GL.run rfl rfl rfl (E.Runs.move rfl rfl) ?_
  refine E.GL.run rfl rfl rfl (E.Runs.eql rfl rfl rfl (decide_eq_true rfl)) ?_
  refine E.GL.run rfl rfl rfl (E.Runs.pick_t rfl rfl rfl) ?_
  refine E.GL.run rfl rfl rfl (E.Runs.move rfl rfl) ?_
  refine E.GL.run rfl rfl rfl (E.Runs.move rfl rfl) ?_
  refine E.GL.run rfl rfl rfl (E.Runs.eql rfl rfl rfl (decide_eq_true rfl)) ?_
  refine E.GL.run rfl rfl rfl (E.Runs.pick_t rfl rfl rfl) ?_
  refine E.GL.run rfl rfl rfl (E.Runs.move rfl rfl) ?_
  refine E.GL.run rfl rfl rfl (E.Runs.move rfl rfl) ?_
  refine E.GL.run rfl rfl rfl (E.Runs.eql rfl rfl rfl (decide_eq_true rfl)) ?_
  refine E.GL.run rfl rfl rfl (E.Runs.pick_t rfl rfl rfl) ?_
  refine E.GL.run rfl rfl rfl (E.Runs.move rfl rfl) ?_
  refine E.GL.run rfl rfl rfl (E.Runs.move rfl rfl) ?_
  refine E.GL.run rfl rfl rfl (E.Runs.eql rfl rfl rfl (decide_eq_true rfl)) ?_
  refine E.GL.run rfl rfl rfl (E.Runs.pick_t rfl rfl rfl) ?_
  refine E.GL.run rfl rfl rfl (E.Runs.move rfl rfl) ?_
  refine E.GL.run rfl rfl rfl (E.Runs.move rfl rfl) ?_
  refine E.GL.st rfl rfl rfl (E.ST.litB (cs := (([0, 1, 2] : List Int).map (Value.int .i64)).toArray) rfl (E.epc rfl (E.epc rfl (E.epc rfl E.epn))) lit22_3 fun g60 w60 e60 b60 l60 => ?_)
  have h60_L : w.heap.size ≤ g60 := by rw [e60]; exact L.size
  have h60_lo : w10.heap.size ≤ g60 := by rw [e60]; exact lo.size
  have h60_lx : w23.heap.size ≤ g60 := by rw [e60]; exact lx.size
  have n60_b1 : g1 ≠ g60 := by have := blk_lt b1; omega
  have n60_b32 : g32 ≠ g60 := by have := blk_lt b32; omega
  replace b1 := blk_below b1 l60
  replace b32 := blk_below b32 l60
  replace L := below_step L l60
  replace lo := below_step lo l60
  replace lx := below_step lx l60
  refine E.GL.st rfl rfl rfl (E.ST.call rfl ent18 (E.evc rfl (E.evc rfl E.evn)) ((same_calls [0, 1, 2] [0, 1, 2] A23 _ c23 3 _ true (by simp) (Kd.C_below C23 lx) (C_nums [0, 1, 2] b60 (by decide)) (by decide)).mono ?_))
  rintro e w61 ⟨rfl, l61⟩
  refine ⟨_, rfl, ?_⟩
  replace b1 := blk_below b1 l61
  replace b32 := blk_below b32 l61
  replace b60 := blk_below b60 l61
  replace L := below_step L l61
  replace lo := below_step lo l61
  replace lx := below_step lx l61
  refine E.GL.run rfl rfl rfl (E.Runs.pick_t rfl rfl rfl) ?_
  refine E.GL.run rfl rfl rfl (E.Runs.move rfl rfl) ?_
  refine E.GL.run rfl rfl rfl (E.Runs.move rfl rfl) ?_
  refine E.GL.run rfl rfl rfl (E.Runs.eql rfl rfl rfl (decide_eq_true rfl)) ?_
  refine E.GL.run rfl rfl rfl (E.Runs.pick_t rfl rfl rfl) ?_
  refine E.GL.run rfl rfl rfl (E.Runs.assign rfl rfl) ?_
  refine E.GL.done ?_
  refine E.QG.code ?_
  refine E.CG.ret ?_
  exact E.QG.result rfl rfl ⟨rfl, L⟩

end Go.Proofs.Ytmnjlnkfihklgaa.T
namespace Go.Proofs.Ytmnjlnkfihklgaa.T
open Go.RowKit Go.Proofs.YtmnjlnkfihklgaaW.PrintWords Go.Proofs.YtmnjlnkfihklgaaW.PrintMore
open Go.Proofs.Ytmnjlnkfihklgaa.P
set_option linter.unusedVariables false
theorem sumM_congr {a b : S35 → Int} : ∀ {l : List S35}, (∀ x ∈ l, a x = b x) → sumM a l = sumM b l
  | [], _ => rfl
  | x :: l, h => by simp only [sumM, h x List.mem_cons_self, sumM_congr (fun y hy => h y (List.mem_cons_of_mem _ hy))]
theorem sumM_sub (a b : S35 → Int) : ∀ l : List S35, sumM (fun x => a x - b x) l = sumM a l - sumM b l
  | [] => rfl
  | x :: l => by simp only [sumM, sumM_sub a b l]; omega
/-- A sum of one term over all passages and minutes. -/
theorem sumQ_one {qs : List S45} {T : Nat} {p t : Nat} (hp : p < qs.length) (ht : t + (qs.getD p z45).f3.toNat < T + 1) (a : Nat → Nat → Int) (h : ∀ i k, ¬ (i = p ∧ k = t) → a i k = 0) : sumQ T qs a = a p t := by
  unfold sumQ
  rw [sumN_eq (u := p) hp, sumN_eq (u := t) (by omega)]
  · intro k _ hk
    exact h p k (fun z => hk z.2)
  · intro i _ hi
    rw [sumN_congr (b := fun _ => 0), sumN_zero]
    intro k _
    exact h i k (fun z => hi z.1)
/-- A sum over moves is one over the passages and minutes. -/
theorem sumM_uses {qs : List S45} {T : Nat} (C : Nat → Nat → Prop) [∀ i k, Decidable (C i k)] : ∀ {l : List S35}, (∀ x ∈ l, MvOk qs T x) →
    sumM (fun x => if C x.f1.toNat x.f0.toNat then x.f2 else 0) l = sumQ T qs (fun i k => if C i k then usedM l i k else 0)
  | [], _ => by
    rw [sumQ_congr (b := fun _ _ => 0), sumQ_zero]
    · rfl
    · intro i k _ _
      split <;> rfl
  | x :: l, h => by
    have ih := sumM_uses C (l := l) (fun y hy => h y (List.mem_cons_of_mem _ hy))
    obtain ⟨⟨a1, a2⟩, ⟨b1, b2⟩, c1, c2, d1⟩ := h x List.mem_cons_self
    have e1 : sumQ T qs (fun i k => if C i k then usedM (x :: l) i k else 0) = sumQ T qs (fun i k => if C i k then usedF i k x else 0) + sumQ T qs (fun i k => if C i k then usedM l i k else 0) := by
      rw [← sumQ_add]
      refine sumQ_congr fun i k _ _ => ?_
      by_cases q : C i k
      · rw [if_pos q, if_pos q, if_pos q]; rfl
      · rw [if_neg q, if_neg q, if_neg q]; rfl
    have e2 := sumQ_one (T := T) (qs := qs) (p := x.f1.toNat) (t := x.f0.toNat) (by omega) (by have : (qs.getD x.f1.toNat z45).f3.toNat ≤ (T - x.f0).toNat := by omega
                                                                                               omega) (fun i k => if C i k then usedF i k x else 0) (fun i k hn => by
      have : usedF i k x = 0 := by
        unfold usedF
        rw [if_neg]
        rintro ⟨q1, q2⟩
        exact hn ⟨by omega, by omega⟩
      rw [this]
      split <;> rfl)
    have e3 : usedF (x.f1.toNat : Nat) (x.f0.toNat : Nat) x = x.f2 := by
      unfold usedF
      rw [if_pos ⟨by omega, by omega⟩]
    simp only [sumM]
    rw [ih, e1, e2]
    simp only [e3]
theorem isPl_all {ps : List Int} {qs : List S45} {T : Nat} {l : List S35} (h : IsPl ps qs T l) : ∀ x ∈ l, MvOk qs T x := fun x hx => by
  obtain ⟨k, hk⟩ := List.mem_iff_getElem?.mp hx
  exact (h.mv k x hk).1
/-- Who is in a room by moves that are right. -/
theorem thM_is {ps : List Int} {qs : List S45} (hok : HOk ps qs) {T : Nat} {l : List S35} (h : ∀ x ∈ l, MvOk qs T x) (r m : Nat) : thM ps qs l r m = thereU ps qs T (fun i k => usedM l i k) r m := by
  have e1 : _ = arrU qs T (fun i k => usedM l i k) r m := sumM_uses (T := T) (fun i k => (qs.getD i z45).f1 = r ∧ k + (qs.getD i z45).f3.toNat ≤ m) h
  have e2 : _ = depU qs T (fun i k => usedM l i k) r m := sumM_uses (T := T) (fun i k => (qs.getD i z45).f0 = r ∧ k ≤ m) h
  have e3 : sumM (thF qs r m) l = sumM (fun x => if (qs.getD x.f1.toNat z45).f1 = r ∧ x.f0.toNat + (qs.getD x.f1.toNat z45).f3.toNat ≤ m then x.f2 else 0) l - sumM (fun x => if (qs.getD x.f1.toNat z45).f0 = r ∧ x.f0.toNat ≤ m then x.f2 else 0) l := by
    rw [← sumM_sub]
    refine sumM_congr fun x hx => ?_
    obtain ⟨⟨a1, a2⟩, ⟨b1, b2⟩, c1, c2, d1⟩ := h x hx
    obtain ⟨_, _, _, _, _, _, _, h8, h9⟩ := hok.q _ (getD_mem (z := z45) (show x.f1.toNat < qs.length by omega))
    unfold thF
    congr 1
    · by_cases q : (qs.getD x.f1.toNat z45).f1 = r ∧ x.f0 + (qs.getD x.f1.toNat z45).f3 ≤ m
      · rw [if_pos q, if_pos ⟨q.1, by omega⟩]
      · rw [if_neg q, if_neg (fun z => q ⟨z.1, by omega⟩)]
    · by_cases q : (qs.getD x.f1.toNat z45).f0 = r ∧ x.f0 ≤ m
      · rw [if_pos q, if_pos ⟨q.1, by omega⟩]
      · rw [if_neg q, if_neg (fun z => q ⟨z.1, by omega⟩)]
  unfold thM thereU
  rw [e3, e1, e2]
  omega
theorem outM_is {qs : List S45} {T : Nat} {l : List S35} (h : ∀ x ∈ l, MvOk qs T x) : outM qs l = outU qs T (fun i k => usedM l i k) := by
  have e1 := sumM_uses (T := T) (fun i k => (qs.getD i z45).f1 = -1) h
  exact e1
theorem usedF_nonneg {qs : List S45} {T : Int} {x : S35} (h : MvOk qs T x) (p t : Int) : 0 ≤ usedF p t x := by
  obtain ⟨_, _, c1, _⟩ := h
  unfold usedF
  split <;> omega
/-- A plan is a use. -/
theorem IsPl.use {ps : List Int} {qs : List S45} (hok : HOk ps qs) {T : Nat} {l : List S35} (h : IsPl ps qs T l) : Use ps qs T (fun i k => usedM l i k) := by
  have hall := isPl_all h
  refine ⟨fun i k hi hk => ?_, fun r m hr hm => by rw [← thM_is hok hall]; exact h.th r m hr hm⟩
  obtain ⟨_, _, _, _, _, h6, _, _, _⟩ := hok.q _ (getD_mem (z := z45) hi)
  have key : ∀ n, n ≤ l.length → 0 ≤ usedM (l.take n) i k ∧ usedM (l.take n) i k ≤ (qs.getD i z45).f2 := by
    intro n
    induction n with
    | zero => intro _; simp only [List.take_zero, usedM, sumM]; omega
    | succ n ih =>
      intro hn
      have hx : l[n]? = some (l[n]'(by omega)) := List.getElem?_eq_getElem _
      generalize (l[n]'(by omega)) = x at hx
      obtain ⟨h1, h2⟩ := ih (by omega)
      have hm := h.mv n x hx
      have hst := sumM_step (h := usedF i k) hx
      have h0 := usedF_nonneg hm.1 i k
      have hst' : usedM (l.take (n + 1)) i k = usedM (l.take n) i k + usedF i k x := hst
      refine ⟨by omega, ?_⟩
      by_cases q : x.f0 = k ∧ x.f1 = i
      · have := hm.2
        rw [q.1, q.2, Int.toNat_natCast] at this
        exact this
      · have : usedF i k x = 0 := by unfold usedF; rw [if_neg q]
        omega
  have := key l.length (Nat.le_refl _)
  rw [List.take_length] at this
  exact this
theorem IsPl.le {ps : List Int} {qs : List S45} (hok : HOk ps qs) {T : Nat} {l : List S35} (h : IsPl ps qs T l) {N : Int} (k : IsMost ps qs T N) : outM qs l ≤ N := by
  obtain ⟨_, hr, _, e⟩ := k
  rw [outM_is (isPl_all h), ← e]
  exact use_le hok (h.use hok) hr
end Go.Proofs.Ytmnjlnkfihklgaa.T
namespace Go.Proofs.Ytmnjlnkfihklgaa.T
open Go.RowKit Go.Proofs.YtmnjlnkfihklgaaW.PrintWords Go.Proofs.YtmnjlnkfihklgaaW.PrintMore
open Go.Proofs.Ytmnjlnkfihklgaa.P
set_option linter.unusedVariables false
section
variable {ps : List Int} {qs : List S45} {T : Nat} {f : Nat → Int} {out : Int}
end
end Go.Proofs.Ytmnjlnkfihklgaa.T
namespace Go.Proofs.Ytmnjlnkfihklgaa.T
open Go.RowKit Go.Proofs.YtmnjlnkfihklgaaW.PrintWords Go.Proofs.YtmnjlnkfihklgaaW.PrintMore
open Go.Proofs.Ytmnjlnkfihklgaa.P
set_option linter.unusedVariables false
section
variable {ps : List Int} {qs : List S45} {T : Nat}
end
end Go.Proofs.Ytmnjlnkfihklgaa.T
