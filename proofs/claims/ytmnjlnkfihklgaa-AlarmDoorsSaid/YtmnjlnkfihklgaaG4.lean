/- Texts of this claim, put together: B6, O1. -/
import Derived.Test.YtmnjlnkfihklgaaG3
import Derived.Test.YtmnjlnkfihklgaaRows
import Derived.ProofKit
import Derived.OpenShut
import Derived.ChangeOld
import Derived.SizedLaws
import Derived.Deep.Slices
namespace Go.Proofs.Ytmnjlnkfihklgaa.T
open Go.RowKit Go.Proofs.YtmnjlnkfihklgaaW.PrintWords Go.Proofs.YtmnjlnkfihklgaaW.PrintMore
open Go.Proofs.Ytmnjlnkfihklgaa.P
set_option linter.unusedVariables false
set_option linter.unusedSimpArgs false

theorem bool_equal (a b : Bool) (W : World) : (Op.equal 4 (.bool a) (.bool b)).run Try.prog W = .ok (a == b) W := run_equal_bool W 4 a b Try.underlying4
theorem shutQ_at (qs : List S45) {i : Nat} (hi : i < qs.length) : (shutQ qs i)[i]? = some { qs.getD i P.z45 with f2 := 0 } := List.getElem?_set_self hi
set_option maxRecDepth 100000 in
set_option maxHeartbeats 8000000 in

theorem doors_law (ps : List Int) (qs : List S45) (A B : Option Addr) (c d : Nat) (w : World) (hP : Kd.C kI w A ps.length ps) (hQ : Kd.C k45 w B qs.length qs) (m1 m2 : Int) :
    Calls Try.prog 7 #[hv ps qs A B c d, .int .i64 m1, .int .i64 m2] w fun e w' => e = .returned (.bool true) ∧ Below w.heap.size w w' := by
  have hu3 := Try.underlying3
  have hu4 := Try.underlying4
  have hu22 := Try.underlying22
  have hu23 := Try.underlying23
  have hu25 := Try.underlying25
  have hu45 := Try.underlying45
  obtain ⟨z3, o3⟩ := info_some info3s (by decide)
  obtain ⟨z22, o22⟩ := info_some info22s (by decide)
  obtain ⟨z23, o23⟩ := info_some info23s (by decide)
  obtain ⟨z25, o25⟩ := info_some info25s (by decide)
  obtain ⟨z45, o45⟩ := info_some info45s (by decide)
  refine E.enter (N := 131) Try.func7 rfl Try.ntmps7 (args := [hv ps qs A B c d, .int .i64 m1, .int .i64 m2]) (by simp) ?_
  have L := Below.refl w.heap.size w
  refine E.CG.seq ?_
  refine E.CG.list ?_
  refine E.GL.st rfl rfl rfl (E.ST.box rfl rfl fun g3 w3 e3 b3 l3 => ?_)
  have h3_L : w.heap.size ≤ g3 := by rw [e3]; exact L.size
  replace L := below_step L l3
  refine E.GL.run rfl rfl rfl (E.Runs.assign rfl rfl) ?_
  refine E.GL.done ?_
  refine E.QG.code ?_
  refine E.CG.seq ?_
  refine E.CG.seq ?_
  refine E.CG.list ?_
  refine E.GL.run rfl rfl rfl (E.Runs.loads (cs := [.slice A ps.length c, .slice B qs.length d]) rfl rfl hu25 rfl info25s (blk_cells b3)) ?_
  refine E.GL.run rfl rfl rfl (E.Runs.move rfl rfl) ?_
  by_cases h19 : ready ps qs m2
  · refine E.GL.st rfl rfl rfl (E.ST.call rfl ent27 (E.evc rfl (E.evc rfl E.evn)) ((ready_calls ps qs A B c d _ true (Kd.C_below hP L) (Kd.C_below hQ L) m2 (iff_of_true rfl h19)).mono ?_))
    rintro e w19 ⟨rfl, l19⟩
    refine ⟨_, rfl, ?_⟩
    replace b3 := blk_below b3 l19
    replace L := below_step L l19
    refine E.GL.run rfl rfl rfl (E.Runs.not rfl rfl) ?_
    refine E.GL.run rfl rfl rfl (E.Runs.move rfl rfl) ?_
    refine E.GL.run rfl rfl rfl (E.Runs.move rfl rfl) ?_
    refine E.GL.cmp rfl rfl rfl (fun _ h => (E.Runs.lss rfl rfl rfl h)) (fun h23 => ?_) (fun h23 => ?_)
    · refine E.GL.run rfl rfl rfl (E.Runs.pick_f rfl rfl rfl) ?_
      refine E.GL.run rfl rfl rfl (E.Runs.move rfl rfl) ?_
      refine E.GL.skip rfl rfl rfl ?_
      refine E.GL.skip rfl rfl rfl ?_
      refine E.GL.skip rfl rfl rfl ?_
      refine E.GL.skip rfl rfl rfl ?_
      refine E.GL.skip rfl rfl rfl ?_
      refine E.GL.run rfl rfl rfl (E.Runs.pick_t rfl rfl rfl) ?_
      refine E.GL.done ?_
      refine E.QG.code ?_
      refine E.CG.cond_t rfl ?_
      refine E.CG.seq ?_
      refine E.CG.list ?_
      refine E.GL.st rfl rfl rfl (E.ST.call rfl ent12 E.evn ((works_calls _).mono ?_))
      rintro e w32 ⟨rfl, l32⟩
      refine ⟨_, rfl, ?_⟩
      replace b3 := blk_below b3 l32
      replace L := below_step L l32
      refine E.GL.run rfl rfl rfl (E.Runs.assign rfl rfl) ?_
      refine E.GL.done ?_
      refine E.QG.code ?_
      refine E.CG.ret ?_
      refine E.QG.pass_ret ?_
      exact E.QG.result rfl rfl ⟨rfl, L⟩
    · refine E.GL.run rfl rfl rfl (E.Runs.pick_f rfl rfl rfl) ?_
      refine E.GL.run rfl rfl rfl (E.Runs.move rfl rfl) ?_
      refine E.GL.run rfl rfl rfl (E.Runs.move rfl rfl) ?_
      refine E.GL.run rfl rfl rfl (E.Runs.fieldAddr rfl rfl hu25 rfl (by assumption) rfl) ?_
      refine E.GL.run rfl rfl rfl (E.Runs.load1 rfl rfl hu23 rfl (by first | assumption | exact E.blkc (by assumption) rfl | exact pw_cell_below L (by assumption))) ?_
      refine E.GL.run rfl rfl rfl (E.Runs.len rfl rfl hu23) ?_
      refine E.GL.cmp rfl rfl rfl (fun _ h => (E.Runs.geq rfl rfl rfl h)) (fun h30 => ?_) (fun h30 => ?_)
      · refine E.GL.run rfl rfl rfl (E.Runs.pick_f rfl rfl rfl) ?_
        refine E.GL.done ?_
        refine E.QG.code ?_
        refine E.CG.cond_t rfl ?_
        refine E.CG.seq ?_
        refine E.CG.list ?_
        refine E.GL.st rfl rfl rfl (E.ST.call rfl ent12 E.evn ((works_calls _).mono ?_))
        rintro e w32 ⟨rfl, l32⟩
        refine ⟨_, rfl, ?_⟩
        replace b3 := blk_below b3 l32
        replace L := below_step L l32
        refine E.GL.run rfl rfl rfl (E.Runs.assign rfl rfl) ?_
        refine E.GL.done ?_
        refine E.QG.code ?_
        refine E.CG.ret ?_
        refine E.QG.pass_ret ?_
        exact E.QG.result rfl rfl ⟨rfl, L⟩
      · refine E.GL.run rfl rfl rfl (E.Runs.pick_f rfl rfl rfl) ?_
        refine E.GL.done ?_
        refine E.QG.code ?_
        refine E.CG.cond_f rfl ?_
        refine E.CG.skip ?_
        refine E.QG.code ?_
        refine E.CG.seq ?_
        obtain ⟨hfar, hlate, hH, hm0, hm1⟩ := h19
        obtain ⟨hb1, hb2⟩ := not_far hfar
        obtain ⟨T, rfl⟩ : ∃ T : Nat, m2 = T := ⟨(m2).toNat, by omega⟩
        have hT : T ≤ 60 := by omega
        have hE0 : chkE ps qs T = 0 := chkE_ok.mpr ⟨hH, by unfold inR; omega⟩
        obtain ⟨i, rfl⟩ : ∃ i : Nat, m1 = i := ⟨m1.toNat, by omega⟩
        have hil : i < qs.length := by omega
        refine E.CG.list ?_
        refine E.GL.run rfl rfl rfl (E.Runs.loads (cs := [.slice A ps.length c, .slice B qs.length d]) rfl rfl hu25 rfl info25s (blk_cells b3)) ?_
        refine E.GL.run rfl rfl rfl (E.Runs.move rfl rfl) ?_
        have hs36 := L.size
        refine E.GL.st rfl rfl rfl (E.ST.call rfl ent23 (E.evc rfl (E.evc rfl E.evn)) ((shut_calls ps qs A B c d _ (Kd.C_below hP L) (Kd.C_below hQ L) (by omega) (by omega) (i : Int)).mono ?_))
        rintro e w36 ⟨ps1, qs1, A4, B4, c4, d4, E36, rfl, RP, RQ, hS36, l36⟩
        refine ⟨_, rfl, ?_⟩
        replace b3 := blk_below b3 l36
        replace L := below_step L l36
        obtain ⟨e1, e2, e3⟩ := hS36.2.2 hH ⟨by omega, by omega⟩
        replace e1 := e1.symm
        subst e1 e3
        rw [Int.toNat_natCast] at e2
        replace e2 : qs1 = shutQ qs i := e2
        subst e2
        replace RP := Kd.R_lower RP hs36
        replace RQ := Kd.R_lower RQ hs36
        have hok2 := shutQ_ok hH hil
        have hE2 : chkE ps (shutQ qs i) T = 0 := chkE_ok.mpr ⟨hok2, by unfold inR; omega⟩
        have hsl := shutQ_len qs i
        refine E.GL.run rfl rfl rfl (E.Runs.move rfl rfl) ?_
        refine E.GL.run rfl rfl rfl (E.Runs.extract rfl rfl rfl) ?_
        refine E.GL.run rfl rfl rfl (E.Runs.extract rfl rfl rfl) ?_
        refine E.GL.st rfl rfl rfl (E.ST.alloc rfl info25z fun g7 w7 e7 b7 l7 => ?_)
        have h7_L : w.heap.size ≤ g7 := by rw [e7]; exact L.size
        have n7_b3 : g3 ≠ g7 := by have := blk_lt b3; omega
        have n7_RP : some g7 ≠ ((Value.slice A4 ps.length c4)).ownBlock := fun h => by have := Kd.R_lt RP _ h.symm; omega
        have n7_RQ : some g7 ≠ ((Value.slice B4 (shutQ qs i).length d4)).ownBlock := fun h => by have := Kd.R_lt RQ _ h.symm; omega
        replace b3 := blk_below b3 l7
        replace RP := Kd.R_below RP l7
        replace RQ := Kd.R_below RQ l7
        replace L := below_step L l7
        refine E.GL.store_whole rfl rfl rfl rfl rfl b7 rfl info25s (slices_one _ _ _ _ _ _) fun wS3_7 c7 lS3_7 => ?_
        replace b3 := blk_grown b3 lS3_7 (E.nes (by first | assumption | exact Ne.symm (by assumption)))
        replace RP := Kd.R_grown1 RP rfl lS3_7 (by first | assumption | exact Kd.R_ne RP b7 (by decide))
        replace RQ := Kd.R_grown1 RQ rfl lS3_7 (by first | assumption | exact Kd.R_ne RQ b7 (by decide))
        replace L := E.below_own L h7_L lS3_7
        replace b7 := c7
        clear c7
        refine E.GL.run rfl rfl rfl (E.Runs.assign rfl rfl) ?_
        refine E.GL.done ?_
        refine E.QG.code ?_
        refine E.CG.seq ?_
        refine E.CG.list ?_
        refine E.GL.run rfl rfl rfl (E.Runs.loads (cs := [.slice A ps.length c, .slice B qs.length d]) rfl rfl hu25 rfl info25s (blk_cells b3)) ?_
        refine E.GL.run rfl rfl rfl (E.Runs.move rfl rfl) ?_
        have hs42 := L.size
        refine E.GL.st rfl rfl rfl (E.ST.call rfl ent25 (E.evc rfl (E.evc rfl E.evn)) ((needed_calls ps qs A B c d _ (Kd.C_below hP L) (Kd.C_below hQ L) (by omega) (by omega) T).mono ?_))
        rintro e w42 ⟨v42, x42, rfl, R42, hN42, l42⟩
        refine ⟨_, rfl, ?_⟩
        replace b3 := blk_below b3 l42
        replace b7 := blk_below b7 l42
        replace RP := Kd.R_below RP l42
        replace RQ := Kd.R_below RQ l42
        replace L := below_step L l42
        rw [hE0]
        obtain ⟨A42, c42, hv42⟩ := Kd.R_slice R42
        subst hv42
        replace R42 := Kd.R_lower R42 hs42
        have hx42 := hN42.1 hE0
        rw [Int.toNat_natCast] at hx42
        have hxl : x42.length ≤ qs.length := by rw [hx42]; exact needL_len _ _ _ _
        refine E.GL.run rfl rfl rfl (E.Runs.move rfl rfl) ?_
        refine E.GL.run rfl rfl rfl (E.Runs.extract rfl rfl rfl) ?_
        refine E.GL.run rfl rfl rfl (E.Runs.extract rfl rfl rfl) ?_
        refine E.GL.run rfl rfl rfl (E.Runs.assign rfl rfl) ?_
        refine E.GL.run rfl rfl rfl (E.Runs.assign rfl rfl) ?_
        refine E.GL.done ?_
        refine E.QG.code ?_
        refine E.CG.seq ?_
        refine E.CG.seq ?_
        refine E.CG.list ?_
        refine E.GL.run rfl rfl rfl (E.Runs.move rfl rfl) ?_
        refine E.GL.run rfl rfl rfl (E.Runs.neq rfl rfl rfl (E.ne_f rfl)) ?_
        refine E.GL.run rfl rfl rfl (E.Runs.move rfl rfl) ?_
        refine E.GL.run rfl rfl rfl (E.Runs.move rfl rfl) ?_
        refine E.GL.run rfl rfl rfl (E.Runs.neq rfl rfl rfl (E.ne_f rfl)) ?_
        refine E.GL.run rfl rfl rfl (E.Runs.pick_f rfl rfl rfl) ?_
        refine E.GL.run rfl rfl rfl (E.Runs.move rfl rfl) ?_
        refine E.GL.run rfl rfl rfl (E.Runs.loads (cs := [.slice A4 ps.length c4, .slice B4 (shutQ qs i).length d4]) rfl rfl hu25 rfl info25s (blk_cells b7)) ?_
        refine E.GL.st rfl rfl rfl (E.ST.call rfl ent15 (E.evc rfl E.evn) ((check15 ps (shutQ qs i) A4 B4 c4 d4 _ (Kd.R_reads' RP).2.2 (Kd.R_reads' RQ).2.2 (by omega) (by omega)).mono ?_))
        rintro e w53 ⟨rfl, l53⟩
        refine ⟨_, rfl, ?_⟩
        replace b3 := blk_below b3 l53
        replace b7 := blk_below b7 l53
        replace RP := Kd.R_below RP l53
        replace RQ := Kd.R_below RQ l53
        replace R42 := Kd.R_below R42 l53
        replace L := below_step L l53
        rw [checkE_yes hok2]
        refine E.GL.run rfl rfl rfl (E.Runs.neq rfl rfl rfl (E.ne_f rfl)) ?_
        refine E.GL.run rfl rfl rfl (E.Runs.pick_f rfl rfl rfl) ?_
        refine E.GL.run rfl rfl rfl (E.Runs.move rfl rfl) ?_
        refine E.GL.run rfl rfl rfl (E.Runs.fieldAddr rfl rfl hu25 rfl (by assumption) rfl) ?_
        refine E.GL.run rfl rfl rfl (E.Runs.load1 rfl rfl hu23 rfl (by first | assumption | exact E.blkc (by assumption) rfl | exact pw_cell_below L (by assumption))) ?_
        refine E.GL.run rfl rfl rfl (E.Runs.len rfl rfl hu23) ?_
        refine E.GL.run rfl rfl rfl (E.Runs.fieldAddr rfl rfl hu25 rfl (by assumption) rfl) ?_
        refine E.GL.run rfl rfl rfl (E.Runs.load1 rfl rfl hu23 rfl (by first | assumption | exact E.blkc (by assumption) rfl | exact pw_cell_below L (by assumption))) ?_
        refine E.GL.run rfl rfl rfl (E.Runs.len rfl rfl hu23) ?_
        refine E.GL.run rfl rfl rfl (E.Runs.neq rfl rfl rfl (E.ne_f (by rw [hsl]))) ?_
        refine E.GL.run rfl rfl rfl (E.Runs.pick_f rfl rfl rfl) ?_
        refine E.GL.run rfl rfl rfl (E.Runs.move rfl rfl) ?_
        refine E.GL.run rfl rfl rfl (E.Runs.fieldAddr rfl rfl hu25 rfl (by assumption) rfl) ?_
        refine E.GL.run rfl rfl rfl (E.Runs.load1 rfl rfl hu23 rfl (by first | assumption | exact E.blkc (by assumption) rfl | exact pw_cell_below L (by assumption))) ?_
        refine E.GL.run rfl rfl rfl (E.Runs.move rfl rfl) ?_
        obtain ⟨gK, eK, _, cK, _⟩ := row45_at RQ (shutQ_at qs hil)
        refine E.GL.run rfl rfl rfl (E.Runs.indexAddrA (i := i) rfl rfl rfl hu23 z45 o45 (by omega) eK (show _ = (⟨gK, i * 4, none⟩ : Addr) from by rw [Go.Addr.add_mid, Nat.zero_add])) ?_
        refine E.GL.run rfl rfl rfl (E.Runs.fieldAddr rfl rfl hu45 rfl (by assumption) (show _ = (⟨gK, i * 4 + 2, none⟩ : Addr) from rfl)) ?_
        refine E.GL.run rfl rfl rfl (E.Runs.load (v := .int .i64 0) rfl rfl hu3 cK) ?_
        refine E.GL.run rfl rfl rfl (E.Runs.neq rfl rfl rfl (E.ne_f rfl)) ?_
        refine E.GL.run rfl rfl rfl (E.Runs.pick_f rfl rfl rfl) ?_
        refine E.GL.run rfl rfl rfl (E.Runs.move rfl rfl) ?_
        refine E.GL.run rfl rfl rfl (E.Runs.move rfl rfl) ?_
        refine E.GL.run rfl rfl rfl (E.Runs.len rfl rfl hu22) ?_
        refine E.GL.run rfl rfl rfl (E.Runs.fieldAddr rfl rfl hu25 rfl (by assumption) rfl) ?_
        refine E.GL.run rfl rfl rfl (E.Runs.load1 rfl rfl hu23 rfl (by first | assumption | exact E.blkc (by assumption) rfl | exact pw_cell_below L (by assumption))) ?_
        refine E.GL.run rfl rfl rfl (E.Runs.len rfl rfl hu23) ?_
        refine E.GL.run rfl rfl rfl (E.Runs.gtr rfl rfl rfl (decide_eq_false (by omega))) ?_
        refine E.GL.run rfl rfl rfl (E.Runs.pick_f rfl rfl rfl) ?_
        refine E.GL.done ?_
        refine E.QG.code ?_
        refine E.CG.cond_f rfl ?_
        refine E.CG.skip ?_
        refine E.QG.code ?_
        refine E.CG.seq ?_
        refine E.CG.list ?_
        refine E.GL.run rfl rfl rfl (E.Runs.loads (cs := [.slice A ps.length c, .slice B qs.length d]) rfl rfl hu25 rfl info25s (blk_cells b3)) ?_
        refine E.GL.run rfl rfl rfl (E.Runs.move rfl rfl) ?_
        refine E.GL.st rfl rfl rfl (E.ST.call rfl ent28 (E.evc rfl (E.evc rfl E.evn)) ((most_calls ps qs A B c d _ (Kd.C_below hP L) (Kd.C_below hQ L) (by omega) (by omega) T).mono ?_))
        rintro e w85 ⟨N85, rfl, hM85, l85⟩
        refine ⟨_, rfl, ?_⟩
        replace b3 := blk_below b3 l85
        replace b7 := blk_below b7 l85
        replace RP := Kd.R_below RP l85
        replace RQ := Kd.R_below RQ l85
        replace R42 := Kd.R_below R42 l85
        replace L := below_step L l85
        rw [hE0]
        have hI85 := hM85.1 hE0
        rw [Int.toNat_natCast] at hI85
        refine E.GL.run rfl rfl rfl (E.Runs.move rfl rfl) ?_
        refine E.GL.run rfl rfl rfl (E.Runs.extract rfl rfl rfl) ?_
        refine E.GL.run rfl rfl rfl (E.Runs.extract rfl rfl rfl) ?_
        refine E.GL.run rfl rfl rfl (E.Runs.assign rfl rfl) ?_
        refine E.GL.run rfl rfl rfl (E.Runs.assign rfl rfl) ?_
        refine E.GL.done ?_
        refine E.QG.code ?_
        refine E.CG.seq ?_
        refine E.CG.list ?_
        refine E.GL.run rfl rfl rfl (E.Runs.loads (cs := [.slice A4 ps.length c4, .slice B4 (shutQ qs i).length d4]) rfl rfl hu25 rfl info25s (blk_cells b7)) ?_
        refine E.GL.run rfl rfl rfl (E.Runs.move rfl rfl) ?_
        refine E.GL.st rfl rfl rfl (E.ST.call rfl ent28 (E.evc rfl (E.evc rfl E.evn)) ((most_calls ps (shutQ qs i) A4 B4 c4 d4 _ (Kd.R_reads' RP).2.2 (Kd.R_reads' RQ).2.2 (by omega) (by omega) T).mono ?_))
        rintro e w91 ⟨N91, rfl, hM91, l91⟩
        refine ⟨_, rfl, ?_⟩
        replace b3 := blk_below b3 l91
        replace b7 := blk_below b7 l91
        replace RP := Kd.R_below RP l91
        replace RQ := Kd.R_below RQ l91
        replace R42 := Kd.R_below R42 l91
        replace L := below_step L l91
        rw [hE2]
        have hI91 := hM91.1 hE2
        rw [Int.toNat_natCast] at hI91
        have hle := most_more hok2 hH (shut_wider hH hil) hI91 hI85
        refine E.GL.run rfl rfl rfl (E.Runs.move rfl rfl) ?_
        refine E.GL.run rfl rfl rfl (E.Runs.extract rfl rfl rfl) ?_
        refine E.GL.run rfl rfl rfl (E.Runs.extract rfl rfl rfl) ?_
        refine E.GL.run rfl rfl rfl (E.Runs.assign rfl rfl) ?_
        refine E.GL.run rfl rfl rfl (E.Runs.assign rfl rfl) ?_
        refine E.GL.done ?_
        refine E.QG.code ?_
        refine E.CG.seq ?_
        refine E.CG.list ?_
        refine E.GL.run rfl rfl rfl (E.Runs.assign rfl rfl) ?_
        refine E.GL.done ?_
        refine E.QG.code ?_
        refine E.CG.seq ?_
        refine E.CG.seq ?_
        refine E.CG.list ?_
        refine E.GL.run rfl rfl rfl (E.Runs.assign rfl rfl) ?_
        refine E.GL.done ?_
        refine E.QG.code ?_
        refine E.CG.block ?_
        have s11_b3 := b3
        have s11_b7 := b7
        have s11_L := L
        refine E.CG.loop2 (fun (j : Nat) (fb : Bool) => [(1, .int .i64 (i : Int)), (3, .pointer (some ⟨g3, 0, none⟩)), (9, .slice A42 x42.length c42), (11, .int .i64 N85), (12, .int .i64 0), (13, .int .i64 N91), (14, .int .i64 0), (15, .bool fb), (16, .int .i64 j)]) (fun j fb w' => j ≤ x42.length ∧ (fb = true ↔ ∃ k, k < j ∧ x42[k]? = some (i : Int)) ∧ w'.heap[g3]? = some (.cells #[.slice A ps.length c, .slice B qs.length d] 25 (0, 0)) ∧ Kd.R kI 3 w' w.heap.size (fun _ => True) (.slice A42 x42.length c42) x42 ∧ Below w.heap.size w w') (fun j fb => x42.length - j) 0 false (E.subc rfl (E.subc rfl (E.subc rfl (E.subc rfl (E.subc rfl (E.subc rfl (E.subc rfl (E.subc rfl (E.subc rfl E.subn))))))))) ⟨Nat.zero_le _, ⟨fun q => (by cases q), fun ⟨k, q, _⟩ => by omega⟩, b3, R42, L⟩ ?_
        rintro j fb w11 ⟨hj, hfb, b3, R42, L⟩
        refine E.CG.seq ?_
        refine E.CG.seq ?_
        refine E.CG.list ?_
        refine E.GL.run rfl rfl rfl (E.Runs.move rfl rfl) ?_
        refine E.GL.run rfl rfl rfl (E.Runs.move rfl rfl) ?_
        refine E.GL.run rfl rfl rfl (E.Runs.len rfl rfl hu22) ?_
        refine E.GL.cmp rfl rfl rfl (fun _ h => (E.Runs.lss rfl rfl rfl h)) (fun h97 => ?_) (fun h97 => ?_)
        · obtain ⟨y, hy⟩ : ∃ y, x42[j]? = some y := ⟨_, List.getElem?_eq_getElem (by omega)⟩
          obtain ⟨gJ, eJ, _, cJ, _⟩ := rowI_at R42 hy
          refine E.GL.done ?_
          refine E.QG.code ?_
          refine E.CG.cond_t rfl ?_
          refine E.CG.skip ?_
          refine E.QG.code ?_
          refine E.CG.seq ?_
          refine E.CG.block ?_
          refine E.CG.list ?_
          rcases fb with _ | _
          · skip
            refine E.GL.run rfl rfl rfl (E.Runs.move rfl rfl) ?_
            refine E.GL.run rfl rfl rfl (E.Runs.move rfl rfl) ?_
            refine E.GL.run rfl rfl rfl (E.Runs.move rfl rfl) ?_
            refine E.GL.run rfl rfl rfl (E.Runs.move rfl rfl) ?_
            refine E.GL.run rfl rfl rfl (E.Runs.indexAddrA (i := j) rfl rfl rfl hu22 z3 o3 (by omega) eJ (show _ = (⟨gJ, j * 1, none⟩ : Addr) from by rw [Go.Addr.add_mid, Nat.zero_add])) ?_
            refine E.GL.run rfl rfl rfl (E.Runs.load rfl rfl hu3 cJ) ?_
            refine E.GL.run rfl rfl rfl (E.Runs.move rfl rfl) ?_
            refine E.GL.cmp rfl rfl rfl (fun _ h => (E.Runs.eql rfl rfl rfl h)) (fun h107 => ?_) (fun h107 => ?_)
            · have hnew : ((true : Bool) = true ↔ ∃ k, k < j + 1 ∧ x42[k]? = some (i : Int)) := ⟨fun _ => ⟨j, by omega, by rw [hy, h107]⟩, fun _ => rfl⟩
              refine E.GL.run rfl rfl rfl (E.Runs.pick_f rfl rfl rfl) ?_
              refine E.GL.run rfl rfl rfl (E.Runs.assign rfl rfl) ?_
              refine E.GL.done ?_
              refine E.QG.block_normal ?_
              refine E.QG.code ?_
              refine E.CG.list ?_
              refine E.GL.run rfl rfl rfl (E.Runs.move rfl rfl) ?_
              refine E.GL.run rfl rfl rfl (E.Runs.add rfl rfl rfl (IntWalk.i64_in _ (by omega))) ?_
              refine E.GL.run rfl rfl rfl (E.Runs.assign rfl rfl) ?_
              refine E.GL.done ?_
              exact E.QG.round2 (d := false) (j + 1) true (E.subc rfl (E.subc rfl (E.subc rfl (E.subc rfl (E.subc rfl (E.subc rfl (E.subc rfl (E.subc rfl (E.subc rfl E.subn))))))))) ⟨by omega, hnew, b3, R42, L⟩ (by omega)
            · have hnew : ((false : Bool) = true ↔ ∃ k, k < j + 1 ∧ x42[k]? = some (i : Int)) := ⟨fun q => (by cases q), fun ⟨k, q1, q2⟩ => by
                by_cases e : k = j
                · subst e; rw [hy] at q2; exact absurd (Option.some.inj q2) h107
                · exact hfb.mpr ⟨k, by omega, q2⟩⟩
              refine E.GL.run rfl rfl rfl (E.Runs.pick_f rfl rfl rfl) ?_
              refine E.GL.run rfl rfl rfl (E.Runs.assign rfl rfl) ?_
              refine E.GL.done ?_
              refine E.QG.block_normal ?_
              refine E.QG.code ?_
              refine E.CG.list ?_
              refine E.GL.run rfl rfl rfl (E.Runs.move rfl rfl) ?_
              refine E.GL.run rfl rfl rfl (E.Runs.add rfl rfl rfl (IntWalk.i64_in _ (by omega))) ?_
              refine E.GL.run rfl rfl rfl (E.Runs.assign rfl rfl) ?_
              refine E.GL.done ?_
              exact E.QG.round2 (d := false) (j + 1) false (E.subc rfl (E.subc rfl (E.subc rfl (E.subc rfl (E.subc rfl (E.subc rfl (E.subc rfl (E.subc rfl (E.subc rfl E.subn))))))))) ⟨by omega, hnew, b3, R42, L⟩ (by omega)
          · have hnew : ((true : Bool) = true ↔ ∃ k, k < j + 1 ∧ x42[k]? = some (i : Int)) := ⟨fun _ => by obtain ⟨k, q1, q2⟩ := hfb.mp rfl; exact ⟨k, by omega, q2⟩, fun _ => rfl⟩
            refine E.GL.run rfl rfl rfl (E.Runs.move rfl rfl) ?_
            refine E.GL.run rfl rfl rfl (E.Runs.move rfl rfl) ?_
            refine E.GL.skip rfl rfl rfl ?_
            refine E.GL.skip rfl rfl rfl ?_
            refine E.GL.skip rfl rfl rfl ?_
            refine E.GL.skip rfl rfl rfl ?_
            refine E.GL.skip rfl rfl rfl ?_
            refine E.GL.skip rfl rfl rfl ?_
            refine E.GL.run rfl rfl rfl (E.Runs.pick_t rfl rfl rfl) ?_
            refine E.GL.run rfl rfl rfl (E.Runs.assign rfl rfl) ?_
            refine E.GL.done ?_
            refine E.QG.block_normal ?_
            refine E.QG.code ?_
            refine E.CG.list ?_
            refine E.GL.run rfl rfl rfl (E.Runs.move rfl rfl) ?_
            refine E.GL.run rfl rfl rfl (E.Runs.add rfl rfl rfl (IntWalk.i64_in _ (by omega))) ?_
            refine E.GL.run rfl rfl rfl (E.Runs.assign rfl rfl) ?_
            refine E.GL.done ?_
            exact E.QG.round2 (d := false) (j + 1) true (E.subc rfl (E.subc rfl (E.subc rfl (E.subc rfl (E.subc rfl (E.subc rfl (E.subc rfl (E.subc rfl (E.subc rfl E.subn))))))))) ⟨by omega, hnew, b3, R42, L⟩ (by omega)
        · have hjl : j = x42.length := by omega
          refine E.GL.done ?_
          refine E.QG.code ?_
          refine E.CG.cond_f rfl ?_
          refine E.CG.exit ?_
          refine E.QG.pass_exit ?_
          refine E.QG.pass_exit ?_
          refine E.QG.block_here ?_
          refine E.QG.code ?_
          refine E.CG.seq ?_
          have hmem : (∃ k, k < j ∧ x42[k]? = some (i : Int)) ↔ N91 < allP ps := by
            rw [← need_iff hH hil hI91, ← hx42]
            constructor
            · rintro ⟨k, _, q⟩
              exact List.mem_of_getElem? q
            · intro q
              obtain ⟨k, hk⟩ := List.mem_iff_getElem?.mp q
              exact ⟨k, by have := (List.getElem?_eq_some_iff.1 hk).1; omega, hk⟩
          refine E.CG.list ?_
          refine E.GL.run rfl rfl rfl (E.Runs.move rfl rfl) ?_
          refine E.GL.run rfl rfl rfl (E.Runs.eql rfl rfl rfl (decide_eq_true rfl)) ?_
          refine E.GL.run rfl rfl rfl (E.Runs.move rfl rfl) ?_
          refine E.GL.run rfl rfl rfl (E.Runs.move rfl rfl) ?_
          refine E.GL.run rfl rfl rfl (E.Runs.eql rfl rfl rfl (decide_eq_true rfl)) ?_
          refine E.GL.run rfl rfl rfl (E.Runs.pick_t rfl rfl rfl) ?_
          refine E.GL.run rfl rfl rfl (E.Runs.move rfl rfl) ?_
          refine E.GL.run rfl rfl rfl (E.Runs.move rfl rfl) ?_
          refine E.GL.run rfl rfl rfl (E.Runs.move rfl rfl) ?_
          refine E.GL.run rfl rfl rfl (E.Runs.leq rfl rfl rfl (decide_eq_true hle)) ?_
          refine E.GL.run rfl rfl rfl (E.Runs.pick_t rfl rfl rfl) ?_
          refine E.GL.run rfl rfl rfl (E.Runs.move rfl rfl) ?_
          rcases fb with _ | _
          · have hlt : ¬ N91 < allP ps := fun q => by have := hfb.mpr (hmem.mpr q); cases this
            refine E.GL.run rfl rfl rfl (E.Runs.move rfl rfl) ?_
            refine E.GL.run rfl rfl rfl (E.Runs.move rfl rfl) ?_
            refine E.GL.run rfl rfl rfl (E.Runs.loads (cs := [.slice A ps.length c, .slice B qs.length d]) rfl rfl hu25 rfl info25s (blk_cells b3)) ?_
            refine E.GL.st rfl rfl rfl (E.ST.call rfl ent29 (E.evc rfl E.evn) ((all_calls ps qs A B c d _ (Kd.C_below hP L) hH.p (by omega)).mono ?_))
            rintro e w124 ⟨rfl, l124⟩
            refine ⟨_, rfl, ?_⟩
            replace b3 := blk_below b3 l124
            replace R42 := Kd.R_below R42 l124
            replace L := below_step L l124
            refine E.GL.run rfl rfl rfl (E.Runs.lss rfl rfl rfl (decide_eq_false hlt)) ?_
            refine E.GL.run rfl rfl rfl (E.Runs.eqlv rfl rfl rfl rfl (fun _ _ _ => rfl) (bool_equal _ _)) ?_
            refine E.GL.run rfl rfl rfl (E.Runs.pick_t rfl rfl rfl) ?_
            refine E.GL.run rfl rfl rfl (E.Runs.move rfl rfl) ?_
            refine E.GL.st rfl rfl rfl (E.ST.call rfl ent12 E.evn ((works_calls _).mono ?_))
            rintro e w129 ⟨rfl, l129⟩
            refine ⟨_, rfl, ?_⟩
            replace b3 := blk_below b3 l129
            replace R42 := Kd.R_below R42 l129
            replace L := below_step L l129
            refine E.GL.run rfl rfl rfl (E.Runs.pick_t rfl rfl rfl) ?_
            refine E.GL.run rfl rfl rfl (E.Runs.assign rfl rfl) ?_
            refine E.GL.done ?_
            refine E.QG.code ?_
            refine E.CG.ret ?_
            exact E.QG.result rfl rfl ⟨rfl, L⟩
          · have hlt : N91 < allP ps := hmem.mp (hfb.mp rfl)
            refine E.GL.run rfl rfl rfl (E.Runs.move rfl rfl) ?_
            refine E.GL.run rfl rfl rfl (E.Runs.move rfl rfl) ?_
            refine E.GL.run rfl rfl rfl (E.Runs.loads (cs := [.slice A ps.length c, .slice B qs.length d]) rfl rfl hu25 rfl info25s (blk_cells b3)) ?_
            refine E.GL.st rfl rfl rfl (E.ST.call rfl ent29 (E.evc rfl E.evn) ((all_calls ps qs A B c d _ (Kd.C_below hP L) hH.p (by omega)).mono ?_))
            rintro e w124 ⟨rfl, l124⟩
            refine ⟨_, rfl, ?_⟩
            replace b3 := blk_below b3 l124
            replace R42 := Kd.R_below R42 l124
            replace L := below_step L l124
            refine E.GL.run rfl rfl rfl (E.Runs.lss rfl rfl rfl (decide_eq_true hlt)) ?_
            refine E.GL.run rfl rfl rfl (E.Runs.eqlv rfl rfl rfl rfl (fun _ _ _ => rfl) (bool_equal _ _)) ?_
            refine E.GL.run rfl rfl rfl (E.Runs.pick_t rfl rfl rfl) ?_
            refine E.GL.run rfl rfl rfl (E.Runs.move rfl rfl) ?_
            refine E.GL.st rfl rfl rfl (E.ST.call rfl ent12 E.evn ((works_calls _).mono ?_))
            rintro e w129 ⟨rfl, l129⟩
            refine ⟨_, rfl, ?_⟩
            replace b3 := blk_below b3 l129
            replace R42 := Kd.R_below R42 l129
            replace L := below_step L l129
            refine E.GL.run rfl rfl rfl (E.Runs.pick_t rfl rfl rfl) ?_
            refine E.GL.run rfl rfl rfl (E.Runs.assign rfl rfl) ?_
            refine E.GL.done ?_
            refine E.QG.code ?_
            refine E.CG.ret ?_
            exact E.QG.result rfl rfl ⟨rfl, L⟩
  · refine E.GL.st rfl rfl rfl (E.ST.call rfl ent27 (E.evc rfl (E.evc rfl E.evn)) ((ready_calls ps qs A B c d _ false (Kd.C_below hP L) (Kd.C_below hQ L) m2 (iff_of_false Bool.false_ne_true h19)).mono ?_))
    rintro e w19 ⟨rfl, l19⟩
    refine ⟨_, rfl, ?_⟩
    replace b3 := blk_below b3 l19
    replace L := below_step L l19
    refine E.GL.run rfl rfl rfl (E.Runs.not rfl rfl) ?_
    refine E.GL.run rfl rfl rfl (E.Runs.move rfl rfl) ?_
    refine E.GL.skip rfl rfl rfl ?_
    refine E.GL.skip rfl rfl rfl ?_
    refine E.GL.run rfl rfl rfl (E.Runs.pick_t rfl rfl rfl) ?_
    refine E.GL.run rfl rfl rfl (E.Runs.move rfl rfl) ?_
    refine E.GL.skip rfl rfl rfl ?_
    refine E.GL.skip rfl rfl rfl ?_
    refine E.GL.skip rfl rfl rfl ?_
    refine E.GL.skip rfl rfl rfl ?_
    refine E.GL.skip rfl rfl rfl ?_
    refine E.GL.run rfl rfl rfl (E.Runs.pick_t rfl rfl rfl) ?_
    refine E.GL.done ?_
    refine E.QG.code ?_
    refine E.CG.cond_t rfl ?_
    refine E.CG.seq ?_
    refine E.CG.list ?_
    refine E.GL.st rfl rfl rfl (E.ST.call rfl ent12 E.evn ((works_calls _).mono ?_))
    rintro e w32 ⟨rfl, l32⟩
    refine ⟨_, rfl, ?_⟩
    replace b3 := blk_below b3 l32
    replace L := below_step L l32
    refine E.GL.run rfl rfl rfl (E.Runs.assign rfl rfl) ?_
    refine E.GL.done ?_
    refine E.QG.code ?_
    refine E.CG.ret ?_
    refine E.QG.pass_ret ?_
    exact E.QG.result rfl rfl ⟨rfl, L⟩

end Go.Proofs.Ytmnjlnkfihklgaa.T
namespace Go.Proofs.Ytmnjlnkfihklgaa.T
open Go.ChangeShapes Go.WideShapes Go.ChangeAt Go.Deep
open Go.RowKit Go.Proofs.YtmnjlnkfihklgaaW.PrintWords Go.Proofs.YtmnjlnkfihklgaaW.PrintMore
open Go.Proofs.Ytmnjlnkfihklgaa.P
set_option linter.unusedVariables false
set_option linter.unusedSimpArgs false

section
variable {X : Type} {enc : TypeId × Value → X} {w : World} {base : Nat} {spare : Nat → Bool} {held : Bool}
theorem fld {fs : Array Field} {n : Nat} {cs : List Value} {xs : List (DataW X × List MemPlace)} (hlen : xs.length = fs.size) (hg : ∀ (i : Nat) (f : Field), fs[i]? = some f → DataW.trod enc Try.prog w base spare held n f.type ((cs.drop f.offset).take (Try.prog.cellsOf f.type)) = xs[i]?) (i : Nat) (f : Field) (hf : fs[i]? = some f)
    (ty : TypeId) (off k : Nat) (h1 : f.type = ty) (h2 : f.offset = off) (h3 : Try.prog.cellsOf ty = k) :
    ∃ y, DataW.trod enc Try.prog w base spare held n ty ((cs.drop off).take k) = some y := by
  have hi : i < xs.length := by rw [hlen]; exact (Array.getElem?_eq_some_iff.1 hf).1
  subst h1 h2 h3
  exact ⟨_, (hg i f hf).trans (List.getElem?_eq_getElem hi)⟩

theorem cells3 : Try.prog.cellsOf 3 = 1 := by kernel_rfl

theorem trod3 {n : Nat} {cs : List Value} {x : DataW X × List MemPlace} (h : DataW.trod enc Try.prog w base spare held n 3 cs = some x) : ∃ (a : Int), cs = [.int .i64 a] := by
  obtain ⟨a, hc, _⟩ := DataW.trod_int Try.underlying3 h
  exact ⟨a, hc⟩

set_option maxRecDepth 100000 in
theorem int_open {r : Reach} {b0 : Nat} {v : Value} {d : DataW X} {p : List MemPlace} (hval : Value.okWide Try.prog w r b0 3 v) (h : DataW.Trod enc Try.prog w base spare held 3 v d p) : ∃ m : Int, v = .int .i64 m := okWide_int Try.underlying3 hval

theorem cells25 : Try.prog.cellsOf 25 = 2 := by kernel_rfl

theorem cells22 : Try.prog.cellsOf 22 = 1 := by kernel_rfl

theorem trod22 {n : Nat} {cs : List Value} {x : DataW X × List MemPlace} (h : DataW.trod enc Try.prog w base spare held n 22 cs = some x) : ∃ (aA : Option Addr) (ac : Nat) (al : List Int), cs = [.slice aA al.length ac] ∧ al.length ≤ ac ∧ Kd.C (Kd.int .i64) w aA al.length al := by
  rcases open_slice Try.underlying22 h with ⟨rfl, _⟩ | ⟨a, len, cap, m, k, D, Pl, rfl, hb, hl, hm, hmm, hx, hi⟩
  · exact ⟨none, 0, [], rfl, Nat.le_refl _, rfl, by simp, fun h => absurd h (by simp)⟩
  · have hlm : len ≤ m := by rw [hmm]; split <;> omega
    have H : ∀ i, i < len → ∃ s : Int, w.cells? base (a.add (i * 1)) 1 = some [.int .i64 s] := by
      intro i hil
      obtain ⟨cs', hc, ht⟩ := hi i (by omega)
      obtain ⟨a, rfl⟩ := trod3 ht
      rw [cells3] at hc
      exact ⟨a, hc⟩
    obtain ⟨F, hF⟩ : ∃ F : Nat → Int, ∀ i, i < len → w.cells? base (a.add (i * 1)) 1 = some [.int .i64 (F i)] := by
      refine ⟨fun i => if h : i < len then (H i h).choose else 0, fun i h => ?_⟩
      simp only [dif_pos h]
      exact (H i h).choose_spec
    refine ⟨some a, cap, (List.range len).map F, by simp, by simpa using hl, ?_, ?_, ?_⟩
    · rfl
    · simp only [List.length_map, List.length_range]
      unfold maxLen at hm
      omega
    · intro _
      refine ⟨a, rfl, fun j p hj => ?_⟩
      have hjl : j < len := by
        have := (List.getElem?_eq_some_iff.1 hj).1
        simpa using this
      have hp : p = F j := by
        rw [List.getElem?_map, List.getElem?_range hjl] at hj
        simpa using hj.symm
      subst hp
      refine ⟨[.int .i64 (F j)], rfl, rfl, ?_⟩
      intro i u hu
      obtain ⟨_, hcl, hat⟩ := World.cells?_some (hF j hjl)
      have hil : i < 1 := (List.getElem?_eq_some_iff.1 hu).1
      have := hat i hil
      rw [Go.Deep.add_add] at this
      rw [show j * ((Kd.int .i64)).sz + i = j * 1 + i from rfl, this, hu]

theorem cells23 : Try.prog.cellsOf 23 = 1 := by kernel_rfl

theorem cells45 : Try.prog.cellsOf 45 = 4 := by kernel_rfl

theorem list_of4 {cs : List Value} (h : cs.length = 4) : ∃ v0 v1 v2 v3, cs = [v0, v1, v2, v3] := by
  match cs, h with
  | [v0, v1, v2, v3], _ => exact ⟨v0, v1, v2, v3, rfl⟩

theorem trod45 {n : Nat} {cs : List Value} {x : DataW X × List MemPlace} (h : DataW.trod enc Try.prog w base spare held n 45 cs = some x) : ∃ (a_0 : Int) (a_1 : Int) (a_2 : Int) (a_3 : Int), cs = [.int .i64 a_0, .int .i64 a_1, .int .i64 a_2, .int .i64 a_3] := by
  obtain ⟨xs, m, _, hx, hl, hlen, hg⟩ := DataW.trod_struct Try.underlying45 h
  rw [cells45] at hl
  obtain ⟨v0, v1, v2, v3, rfl⟩ := list_of4 hl
  obtain ⟨y0, h0⟩ := fld hlen hg 0 _ rfl 3 0 1 rfl rfl cells3
  obtain ⟨y1, h1⟩ := fld hlen hg 1 _ rfl 3 1 1 rfl rfl cells3
  obtain ⟨y2, h2⟩ := fld hlen hg 2 _ rfl 3 2 1 rfl rfl cells3
  obtain ⟨y3, h3⟩ := fld hlen hg 3 _ rfl 3 3 1 rfl rfl cells3
  obtain ⟨a_0, e0⟩ := trod3 h0
  obtain ⟨a_1, e1⟩ := trod3 h1
  obtain ⟨a_2, e2⟩ := trod3 h2
  obtain ⟨a_3, e3⟩ := trod3 h3
  simp only [List.drop_zero, List.take_succ_cons, List.take_zero, List.drop_succ_cons, List.cons.injEq, and_true] at e0 e1 e2 e3
  subst e0 e1 e2 e3
  exact ⟨a_0, a_1, a_2, a_3, rfl⟩

theorem trod23 {n : Nat} {cs : List Value} {x : DataW X × List MemPlace} (h : DataW.trod enc Try.prog w base spare held n 23 cs = some x) : ∃ (aA : Option Addr) (ac : Nat) (al : List S45), cs = [.slice aA al.length ac] ∧ al.length ≤ ac ∧ Kd.C k45 w aA al.length al := by
  rcases open_slice Try.underlying23 h with ⟨rfl, _⟩ | ⟨a, len, cap, m, k, D, Pl, rfl, hb, hl, hm, hmm, hx, hi⟩
  · exact ⟨none, 0, [], rfl, Nat.le_refl _, rfl, by simp, fun h => absurd h (by simp)⟩
  · have hlm : len ≤ m := by rw [hmm]; split <;> omega
    have H : ∀ i, i < len → ∃ s : S45, w.cells? base (a.add (i * 4)) 4 = some [.int .i64 s.f0, .int .i64 s.f1, .int .i64 s.f2, .int .i64 s.f3] := by
      intro i hil
      obtain ⟨cs', hc, ht⟩ := hi i (by omega)
      obtain ⟨a_0, a_1, a_2, a_3, rfl⟩ := trod45 ht
      rw [cells45] at hc
      exact ⟨⟨a_0, a_1, a_2, a_3⟩, hc⟩
    obtain ⟨F, hF⟩ : ∃ F : Nat → S45, ∀ i, i < len → w.cells? base (a.add (i * 4)) 4 = some [.int .i64 (F i).f0, .int .i64 (F i).f1, .int .i64 (F i).f2, .int .i64 (F i).f3] := by
      refine ⟨fun i => if h : i < len then (H i h).choose else P.z45, fun i h => ?_⟩
      simp only [dif_pos h]
      exact (H i h).choose_spec
    refine ⟨some a, cap, (List.range len).map F, by simp, by simpa using hl, ?_, ?_, ?_⟩
    · rfl
    · simp only [List.length_map, List.length_range]
      unfold maxLen at hm
      omega
    · intro _
      refine ⟨a, rfl, fun j p hj => ?_⟩
      have hjl : j < len := by
        have := (List.getElem?_eq_some_iff.1 hj).1
        simpa using this
      have hp : p = F j := by
        rw [List.getElem?_map, List.getElem?_range hjl] at hj
        simpa using hj.symm
      subst hp
      refine ⟨[.int .i64 (F j).f0, .int .i64 (F j).f1, .int .i64 (F j).f2, .int .i64 (F j).f3], rfl, k45_mk w (F j), ?_⟩
      intro i u hu
      obtain ⟨_, hcl, hat⟩ := World.cells?_some (hF j hjl)
      have hil : i < 4 := (List.getElem?_eq_some_iff.1 hu).1
      have := hat i hil
      rw [Go.Deep.add_add] at this
      rw [show j * (k45).sz + i = j * 4 + i from rfl, this, hu]

theorem list_of2 {cs : List Value} (h : cs.length = 2) : ∃ v0 v1, cs = [v0, v1] := by
  match cs, h with
  | [v0, v1], _ => exact ⟨v0, v1, rfl⟩

theorem trod25 {n : Nat} {cs : List Value} {x : DataW X × List MemPlace} (h : DataW.trod enc Try.prog w base spare held n 25 cs = some x) : ∃ (a_0A : Option Addr) (a_0c : Nat) (a_0l : List Int) (a_1A : Option Addr) (a_1c : Nat) (a_1l : List S45), cs = [.slice a_0A a_0l.length a_0c, .slice a_1A a_1l.length a_1c] ∧ a_0l.length ≤ a_0c ∧ Kd.C (Kd.int .i64) w a_0A a_0l.length a_0l ∧ a_1l.length ≤ a_1c ∧ Kd.C k45 w a_1A a_1l.length a_1l := by
  obtain ⟨xs, m, _, hx, hl, hlen, hg⟩ := DataW.trod_struct Try.underlying25 h
  rw [cells25] at hl
  obtain ⟨v0, v1, rfl⟩ := list_of2 hl
  obtain ⟨y0, h0⟩ := fld hlen hg 0 _ rfl 22 0 1 rfl rfl cells22
  obtain ⟨y1, h1⟩ := fld hlen hg 1 _ rfl 23 1 1 rfl rfl cells23
  obtain ⟨a_0A, a_0c, a_0l, e0, f0_0, f0_1⟩ := trod22 h0
  obtain ⟨a_1A, a_1c, a_1l, e1, f1_0, f1_1⟩ := trod23 h1
  simp only [List.drop_zero, List.take_succ_cons, List.take_zero, List.drop_succ_cons, List.cons.injEq, and_true] at e0 e1
  subst e0 e1
  exact ⟨a_0A, a_0c, a_0l, a_1A, a_1c, a_1l, rfl, f0_0, f0_1, f1_0, f1_1⟩

set_option maxRecDepth 100000 in
theorem house_open {r : Reach} {b0 : Nat} {v : Value} {d : DataW X} {p : List MemPlace} (hval : Value.okWide Try.prog w r b0 25 v) (h : DataW.Trod enc Try.prog w base spare held 25 v d p) : ∃ (a_0A : Option Addr) (a_0c : Nat) (a_0l : List Int) (a_1A : Option Addr) (a_1c : Nat) (a_1l : List S45), v = .agg #[.slice a_0A a_0l.length a_0c, .slice a_1A a_1l.length a_1c] ∧ a_0l.length ≤ a_0c ∧ Kd.C (Kd.int .i64) w a_0A a_0l.length a_0l ∧ a_1l.length ≤ a_1c ∧ Kd.C k45 w a_1A a_1l.length a_1l := by
  obtain ⟨cs, rfl, hsz⟩ := okWide_struct Try.underlying25 hval
  obtain ⟨n, hn⟩ := h
  obtain ⟨a_0A, a_0c, a_0l, a_1A, a_1c, a_1l, hH, f0, f1, f2, f3⟩ := trod25 hn
  obtain ⟨l⟩ := cs
  obtain rfl : l = _ := hH
  exact ⟨a_0A, a_0c, a_0l, a_1A, a_1c, a_1l, rfl, f0, f1, f2, f3⟩

end

end Go.Proofs.Ytmnjlnkfihklgaa.T
