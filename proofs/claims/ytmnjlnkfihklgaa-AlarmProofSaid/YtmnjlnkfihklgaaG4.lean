/- Texts of this claim, put together: A18, A19, A20, A21, A22, N13, A23, N14, A24, A25, N15, A26, A27, N11, N12, N16, B5, O1. -/
import Derived.Test.YtmnjlnkfihklgaaG3
import Derived.Test.YtmnjlnkfihklgaaWEqStruct
import Derived.Test.YtmnjlnkfihklgaaWRepsOne
import Derived.Test.YtmnjlnkfihklgaaRows
import Derived.ProofKit
import Derived.OpenShut
import Derived.ChangeOld
import Derived.SizedLaws
import Derived.Deep.Slices
namespace Go.Proofs.Ytmnjlnkfihklgaa.T
open Go.RowKit Go.Proofs.YtmnjlnkfihklgaaW.PrintWords Go.Proofs.YtmnjlnkfihklgaaW.PrintMore
open Go.Proofs.Ytmnjlnkfihklgaa.P
set_option linter.unusedVariables false
set_option linter.unusedSimpArgs false

/-- A move that is right by itself. -/
def IsMv (qs : List S45) (T : Int) (x : S35) : Prop := inR x.f1 0 (qs.length - 1) ∧ inR x.f0 0 T ∧ 1 ≤ x.f2 ∧ x.f0 + (qs.getD x.f1.toNat P.z45).f3 ≤ T ∧ x.f2 ≤ (qs.getD x.f1.toNat P.z45).f2
instance (qs : List S45) (T : Int) (x : S35) : Decidable (IsMv qs T x) := by unfold IsMv; infer_instance
set_option maxRecDepth 100000 in
set_option maxHeartbeats 8000000 in

theorem isMove_calls (ps : List Int) (qs : List S45) (A B : Option Addr) (c d : Nat) (T : Nat) (x : S35) (r : Bool) (hok : HOk ps qs) (hb : r = true ↔ IsMv qs T x) (w : World) (hQ : Kd.C k45 w B qs.length qs) (hT : T ≤ 60) :
    Calls Try.prog 46 #[hv ps qs A B c d, .int .i64 (T : Int), .agg #[.int .i64 x.f0, .int .i64 x.f1, .int .i64 x.f2]] w fun e w' => e = .returned (.bool r) ∧ Below w.heap.size w w' := by
  have hu3 := Try.underlying3
  have hu23 := Try.underlying23
  have hu25 := Try.underlying25
  have hu35 := Try.underlying35
  have hu45 := Try.underlying45
  obtain ⟨z3, o3⟩ := info_some info3s (by decide)
  obtain ⟨z23, o23⟩ := info_some info23s (by decide)
  obtain ⟨z45, o45⟩ := info_some info45s (by decide)
  have hq12 := hok.q12
  refine E.enter (N := 51) Try.func46 rfl Try.ntmps46 (args := [hv ps qs A B c d, .int .i64 (T : Int), .agg #[.int .i64 x.f0, .int .i64 x.f1, .int .i64 x.f2]]) (by simp) ?_
  have L := Below.refl w.heap.size w
  refine E.CG.seq ?_
  refine E.CG.list ?_
  refine E.GL.st rfl rfl rfl (E.ST.box rfl rfl fun g3 w3 e3 b3 l3 => ?_)
  have h3_L : w.heap.size ≤ g3 := by rw [e3]; exact L.size
  replace L := below_step L l3
  refine E.GL.st rfl rfl rfl (E.ST.box rfl rfl fun g5 w5 e5 b5 l5 => ?_)
  have h5_L : w.heap.size ≤ g5 := by rw [e5]; exact L.size
  have n5_b3 : g3 ≠ g5 := by have := blk_lt b3; omega
  replace b3 := blk_below b3 l5
  replace L := below_step L l5
  refine E.GL.run rfl rfl rfl (E.Runs.assign rfl rfl) ?_
  refine E.GL.done ?_
  refine E.QG.code ?_
  refine E.CG.seq ?_
  refine E.CG.heldH (none) (by kernel_rfl) fun v1 lD hh => ?_
  replace b3 := blk_below b3 lD
  replace b5 := blk_below b5 lD
  replace L := below_step L lD
  clear lD
  have s_b3 := b3
  have s_b5 := b5
  have s_L := L
  refine E.GH.take (i := 0) rfl (by kernel_rfl) (by kernel_rfl) (by kernel_rfl) (by intro c a d v w h; cases d <;> exact h) rfl rfl rfl (fun w' hS => (E.Runs.fieldAddr rfl rfl hu35 rfl (by assumption) rfl)) ?_
  refine E.GH.take (i := 1) rfl (by kernel_rfl) (by kernel_rfl) (by kernel_rfl) (by intro c a d v w h; cases d <;> exact h) rfl rfl rfl (fun w' hS => (E.Runs.load rfl rfl hu3 (by first | exact E.keeps hS (E.blkc (by assumption) rfl) (by first | exact E.nen | exact E.nes (by assumption) | exact E.nes (Ne.symm (by assumption))) | exact pw_cell_below (below_step s_L (E.belowG hS)) (by assumption)))) ?_
  refine E.GH.take (i := 2) rfl (by kernel_rfl) (by kernel_rfl) (by kernel_rfl) (by intro c a d v w h; cases d <;> exact h) rfl rfl rfl (fun w' hS => (E.Runs.fieldAddr rfl rfl hu25 rfl (by assumption) rfl)) ?_
  refine E.GH.take (i := 3) rfl (by kernel_rfl) (by kernel_rfl) (by kernel_rfl) (by intro c a d v w h; cases d <;> exact h) rfl rfl rfl (fun w' hS => (E.Runs.load1 rfl rfl hu23 rfl (by first | exact E.keeps hS (E.blkc (by assumption) rfl) (by first | exact E.nen | exact E.nes (by assumption) | exact E.nes (Ne.symm (by assumption))) | exact pw_cell_below (below_step s_L (E.belowG hS)) (by assumption)))) ?_
  refine E.GH.take (i := 4) rfl (by kernel_rfl) (by kernel_rfl) (by kernel_rfl) (by intro c a d v w h; cases d <;> exact h) rfl rfl rfl (fun w' hS => (E.Runs.len rfl rfl hu23)) ?_
  refine E.GH.take (i := 5) rfl (by kernel_rfl) (by kernel_rfl) (by kernel_rfl) (by intro c a d v w h; cases d <;> exact h) rfl rfl rfl (fun w' hS => (E.Runs.sub rfl rfl rfl (IntWalk.i64_in _ (by omega)))) ?_
  by_cases h13 : inR x.f1 0 (qs.length - 1)
  · obtain ⟨u, hu1⟩ : ∃ u : Nat, (u : Int) = x.f1 := ⟨x.f1.toNat, by unfold inR at h13; omega⟩
    have hul : u < qs.length := by unfold inR at h13; omega
    obtain ⟨q, hq⟩ : ∃ q, q = qs.getD u P.z45 := ⟨_, rfl⟩
    have hqu : qs.getD x.f1.toNat P.z45 = q := by rw [hq, ← hu1, Int.toNat_natCast]
    obtain ⟨aQ, eQ, cQ⟩ := pass_at hQ (show qs[u]? = some q by rw [hq]; exact getD_some hul _)
    obtain ⟨hq1, hq2, hq3, hq4, hq5, hq6, hq7, hq8, hq9⟩ := hok.q q (by rw [hq]; exact getD_mem hul)
    refine E.GH.one (i := 6) (by kernel_rfl) rfl ?_
    refine E.GO.st rfl rfl rfl (E.ST.call rfl ent38 (E.evc rfl (E.evc rfl (E.evc rfl E.evn))) ((within_o x.f1 0 (qs.length - 1) true (iff_of_true rfl h13) _).mono ?_))
    rintro e w13 ⟨rfl, l13⟩
    refine ⟨_, rfl, hh.trans (E.gbB l13), ?_⟩
    replace hh := hh.trans (E.gbB l13)
    replace b3 := blk_below b3 l13
    replace b5 := blk_below b5 l13
    replace L := below_step L l13
    refine E.GH.take (i := 7) rfl (by kernel_rfl) (by kernel_rfl) (by kernel_rfl) (by intro c a d v w h; cases d <;> exact h) rfl rfl rfl (fun w' hS => (E.Runs.move rfl rfl)) ?_
    refine E.GH.take (i := 8) rfl (by kernel_rfl) (by kernel_rfl) (by kernel_rfl) (by intro c a d v w h; cases d <;> exact h) rfl rfl rfl (fun w' hS => (E.Runs.fieldAddr rfl rfl hu35 rfl (by assumption) rfl)) ?_
    refine E.GH.take (i := 9) rfl (by kernel_rfl) (by kernel_rfl) (by kernel_rfl) (by intro c a d v w h; cases d <;> exact h) rfl rfl rfl (fun w' hS => (E.Runs.load rfl rfl hu3 (by first | exact E.keeps hS (E.blkc (by assumption) rfl) (by first | exact E.nen | exact E.nes (by assumption) | exact E.nes (Ne.symm (by assumption))) | exact pw_cell_below (below_step s_L (E.belowG hS)) (by assumption)))) ?_
    refine E.GH.take (i := 10) rfl (by kernel_rfl) (by kernel_rfl) (by kernel_rfl) (by intro c a d v w h; cases d <;> exact h) rfl rfl rfl (fun w' hS => (E.Runs.move rfl rfl)) ?_
    by_cases h18 : inR x.f0 0 T
    · have h18b := h18
      unfold inR at h18b
      refine E.GH.one (i := 11) (by kernel_rfl) rfl ?_
      refine E.GO.st rfl rfl rfl (E.ST.call rfl ent38 (E.evc rfl (E.evc rfl (E.evc rfl E.evn))) ((within_o x.f0 0 T true (iff_of_true rfl h18) _).mono ?_))
      rintro e w18 ⟨rfl, l18⟩
      refine ⟨_, rfl, hh.trans (E.gbB l18), ?_⟩
      replace hh := hh.trans (E.gbB l18)
      replace b3 := blk_below b3 l18
      replace b5 := blk_below b5 l18
      replace L := below_step L l18
      refine E.GH.take (i := 12) rfl (by kernel_rfl) (by kernel_rfl) (by kernel_rfl) (by intro c a d v w h; cases d <;> exact h) rfl rfl rfl (fun w' hS => (E.Runs.pick_t rfl rfl rfl)) ?_
      refine E.GH.take (i := 13) rfl (by kernel_rfl) (by kernel_rfl) (by kernel_rfl) (by intro c a d v w h; cases d <;> exact h) rfl rfl rfl (fun w' hS => (E.Runs.move rfl rfl)) ?_
      refine E.GH.take (i := 14) rfl (by kernel_rfl) (by kernel_rfl) (by kernel_rfl) (by intro c a d v w h; cases d <;> exact h) rfl rfl rfl (fun w' hS => (E.Runs.fieldAddr rfl rfl hu35 rfl (by assumption) rfl)) ?_
      refine E.GH.take (i := 15) rfl (by kernel_rfl) (by kernel_rfl) (by kernel_rfl) (by intro c a d v w h; cases d <;> exact h) rfl rfl rfl (fun w' hS => (E.Runs.load rfl rfl hu3 (by first | exact E.keeps hS (E.blkc (by assumption) rfl) (by first | exact E.nen | exact E.nes (by assumption) | exact E.nes (Ne.symm (by assumption))) | exact pw_cell_below (below_step s_L (E.belowG hS)) (by assumption)))) ?_
      refine E.GH.cmp (i := 16) rfl (by kernel_rfl) (by kernel_rfl) (by kernel_rfl) (by intro c a d v w h; cases d <;> exact h) rfl rfl rfl (fun _ h w' hS => (E.Runs.geq rfl rfl rfl h)) (fun h23 => ?_) (fun h23 => ?_)
      · refine E.GH.take (i := 17) rfl (by kernel_rfl) (by kernel_rfl) (by kernel_rfl) (by intro c a d v w h; cases d <;> exact h) rfl rfl rfl (fun w' hS => (E.Runs.pick_t rfl rfl rfl)) ?_
        refine E.GH.take (i := 18) rfl (by kernel_rfl) (by kernel_rfl) (by kernel_rfl) (by intro c a d v w h; cases d <;> exact h) rfl rfl rfl (fun w' hS => (E.Runs.move rfl rfl)) ?_
        refine E.GH.take (i := 19) rfl (by kernel_rfl) (by kernel_rfl) (by kernel_rfl) (by intro c a d v w h; cases d <;> exact h) rfl rfl rfl (fun w' hS => (E.Runs.fieldAddr rfl rfl hu35 rfl (by assumption) rfl)) ?_
        refine E.GH.take (i := 20) rfl (by kernel_rfl) (by kernel_rfl) (by kernel_rfl) (by intro c a d v w h; cases d <;> exact h) rfl rfl rfl (fun w' hS => (E.Runs.load rfl rfl hu3 (by first | exact E.keeps hS (E.blkc (by assumption) rfl) (by first | exact E.nen | exact E.nes (by assumption) | exact E.nes (Ne.symm (by assumption))) | exact pw_cell_below (below_step s_L (E.belowG hS)) (by assumption)))) ?_
        refine E.GH.take (i := 21) rfl (by kernel_rfl) (by kernel_rfl) (by kernel_rfl) (by intro c a d v w h; cases d <;> exact h) rfl rfl rfl (fun w' hS => (E.Runs.fieldAddr rfl rfl hu25 rfl (by assumption) rfl)) ?_
        refine E.GH.take (i := 22) rfl (by kernel_rfl) (by kernel_rfl) (by kernel_rfl) (by intro c a d v w h; cases d <;> exact h) rfl rfl rfl (fun w' hS => (E.Runs.load1 rfl rfl hu23 rfl (by first | exact E.keeps hS (E.blkc (by assumption) rfl) (by first | exact E.nen | exact E.nes (by assumption) | exact E.nes (Ne.symm (by assumption))) | exact pw_cell_below (below_step s_L (E.belowG hS)) (by assumption)))) ?_
        refine E.GH.take (i := 23) rfl (by kernel_rfl) (by kernel_rfl) (by kernel_rfl) (by intro c a d v w h; cases d <;> exact h) rfl rfl rfl (fun w' hS => (E.Runs.fieldAddr rfl rfl hu35 rfl (by assumption) rfl)) ?_
        refine E.GH.take (i := 24) rfl (by kernel_rfl) (by kernel_rfl) (by kernel_rfl) (by intro c a d v w h; cases d <;> exact h) rfl rfl rfl (fun w' hS => (E.Runs.load rfl rfl hu3 (by first | exact E.keeps hS (E.blkc (by assumption) rfl) (by first | exact E.nen | exact E.nes (by assumption) | exact E.nes (Ne.symm (by assumption))) | exact pw_cell_below (below_step s_L (E.belowG hS)) (by assumption)))) ?_
        refine E.GH.take (i := 25) rfl (by kernel_rfl) (by kernel_rfl) (by kernel_rfl) (by intro c a d v w h; cases d <;> exact h) rfl rfl rfl (fun w' hS => (E.Runs.indexAddrA (i := u) rfl rfl (by rw [hu1]; rfl) hu23 z45 o45 (show (u : Int) < qs.length by omega) eQ rfl)) ?_
        refine E.GH.take (i := 26) rfl (by kernel_rfl) (by kernel_rfl) (by kernel_rfl) (by intro c a d v w h; cases d <;> exact h) rfl rfl rfl (fun w' hS => (E.Runs.fieldAddr rfl rfl hu45 rfl (by assumption) rfl)) ?_
        refine E.GH.take (i := 27) rfl (by kernel_rfl) (by kernel_rfl) (by kernel_rfl) (by intro c a d v w h; cases d <;> exact h) rfl rfl rfl (fun w' hS => (E.Runs.load (v := .int .i64 q.f3) rfl rfl hu3 (by rw [← E.add_onA]; exact pw_cell_below (below_step s_L (E.belowG hS)) (cQ 3 _ rfl)))) ?_
        refine E.GH.take (i := 28) rfl (by kernel_rfl) (by kernel_rfl) (by kernel_rfl) (by intro c a d v w h; cases d <;> exact h) rfl rfl rfl (fun w' hS => (E.Runs.add rfl rfl rfl (IntWalk.i64_in _ (by omega)))) ?_
        refine E.GH.take (i := 29) rfl (by kernel_rfl) (by kernel_rfl) (by kernel_rfl) (by intro c a d v w h; cases d <;> exact h) rfl rfl rfl (fun w' hS => (E.Runs.move rfl rfl)) ?_
        refine E.GH.cmp (i := 30) rfl (by kernel_rfl) (by kernel_rfl) (by kernel_rfl) (by intro c a d v w h; cases d <;> exact h) rfl rfl rfl (fun _ h w' hS => (E.Runs.leq rfl rfl rfl h)) (fun h37 => ?_) (fun h37 => ?_)
        · refine E.GH.take (i := 31) rfl (by kernel_rfl) (by kernel_rfl) (by kernel_rfl) (by intro c a d v w h; cases d <;> exact h) rfl rfl rfl (fun w' hS => (E.Runs.pick_t rfl rfl rfl)) ?_
          refine E.GH.take (i := 32) rfl (by kernel_rfl) (by kernel_rfl) (by kernel_rfl) (by intro c a d v w h; cases d <;> exact h) rfl rfl rfl (fun w' hS => (E.Runs.move rfl rfl)) ?_
          refine E.GH.take (i := 33) rfl (by kernel_rfl) (by kernel_rfl) (by kernel_rfl) (by intro c a d v w h; cases d <;> exact h) rfl rfl rfl (fun w' hS => (E.Runs.fieldAddr rfl rfl hu35 rfl (by assumption) rfl)) ?_
          refine E.GH.take (i := 34) rfl (by kernel_rfl) (by kernel_rfl) (by kernel_rfl) (by intro c a d v w h; cases d <;> exact h) rfl rfl rfl (fun w' hS => (E.Runs.load rfl rfl hu3 (by first | exact E.keeps hS (E.blkc (by assumption) rfl) (by first | exact E.nen | exact E.nes (by assumption) | exact E.nes (Ne.symm (by assumption))) | exact pw_cell_below (below_step s_L (E.belowG hS)) (by assumption)))) ?_
          refine E.GH.take (i := 35) rfl (by kernel_rfl) (by kernel_rfl) (by kernel_rfl) (by intro c a d v w h; cases d <;> exact h) rfl rfl rfl (fun w' hS => (E.Runs.fieldAddr rfl rfl hu25 rfl (by assumption) rfl)) ?_
          refine E.GH.take (i := 36) rfl (by kernel_rfl) (by kernel_rfl) (by kernel_rfl) (by intro c a d v w h; cases d <;> exact h) rfl rfl rfl (fun w' hS => (E.Runs.load1 rfl rfl hu23 rfl (by first | exact E.keeps hS (E.blkc (by assumption) rfl) (by first | exact E.nen | exact E.nes (by assumption) | exact E.nes (Ne.symm (by assumption))) | exact pw_cell_below (below_step s_L (E.belowG hS)) (by assumption)))) ?_
          refine E.GH.take (i := 37) rfl (by kernel_rfl) (by kernel_rfl) (by kernel_rfl) (by intro c a d v w h; cases d <;> exact h) rfl rfl rfl (fun w' hS => (E.Runs.fieldAddr rfl rfl hu35 rfl (by assumption) rfl)) ?_
          refine E.GH.take (i := 38) rfl (by kernel_rfl) (by kernel_rfl) (by kernel_rfl) (by intro c a d v w h; cases d <;> exact h) rfl rfl rfl (fun w' hS => (E.Runs.load rfl rfl hu3 (by first | exact E.keeps hS (E.blkc (by assumption) rfl) (by first | exact E.nen | exact E.nes (by assumption) | exact E.nes (Ne.symm (by assumption))) | exact pw_cell_below (below_step s_L (E.belowG hS)) (by assumption)))) ?_
          refine E.GH.take (i := 39) rfl (by kernel_rfl) (by kernel_rfl) (by kernel_rfl) (by intro c a d v w h; cases d <;> exact h) rfl rfl rfl (fun w' hS => (E.Runs.indexAddrA (i := u) rfl rfl (by rw [hu1]; rfl) hu23 z45 o45 (show (u : Int) < qs.length by omega) eQ rfl)) ?_
          refine E.GH.take (i := 40) rfl (by kernel_rfl) (by kernel_rfl) (by kernel_rfl) (by intro c a d v w h; cases d <;> exact h) rfl rfl rfl (fun w' hS => (E.Runs.fieldAddr rfl rfl hu45 rfl (by assumption) rfl)) ?_
          refine E.GH.take (i := 41) rfl (by kernel_rfl) (by kernel_rfl) (by kernel_rfl) (by intro c a d v w h; cases d <;> exact h) rfl rfl rfl (fun w' hS => (E.Runs.load (v := .int .i64 q.f2) rfl rfl hu3 (by rw [← E.add_onA]; exact pw_cell_below (below_step s_L (E.belowG hS)) (cQ 2 _ rfl)))) ?_
          refine E.GH.cmp (i := 42) rfl (by kernel_rfl) (by kernel_rfl) (by kernel_rfl) (by intro c a d v w h; cases d <;> exact h) rfl rfl rfl (fun _ h w' hS => (E.Runs.leq rfl rfl rfl h)) (fun h49 => ?_) (fun h49 => ?_)
          · refine E.GH.take (i := 43) rfl (by kernel_rfl) (by kernel_rfl) (by kernel_rfl) (by intro c a d v w h; cases d <;> exact h) rfl rfl rfl (fun w' hS => (E.Runs.pick_t rfl rfl rfl)) ?_
            refine E.GH.take (i := 44) rfl (by kernel_rfl) (by kernel_rfl) (by kernel_rfl) (by intro c a d v w h; cases d <;> exact h) rfl rfl rfl (fun w' hS => (E.Runs.assign rfl rfl)) ?_
            refine E.GH.done (by kernel_rfl) ?_
            refine E.QG.code ?_
            refine E.CG.ret ?_
            exact E.QG.result rfl rfl ⟨by rw [hb.mpr ⟨h13, h18, by omega, by rw [hqu]; omega, by rw [hqu]; omega⟩], L⟩
          · refine E.GH.take (i := 43) rfl (by kernel_rfl) (by kernel_rfl) (by kernel_rfl) (by intro c a d v w h; cases d <;> exact h) rfl rfl rfl (fun w' hS => (E.Runs.pick_t rfl rfl rfl)) ?_
            refine E.GH.take (i := 44) rfl (by kernel_rfl) (by kernel_rfl) (by kernel_rfl) (by intro c a d v w h; cases d <;> exact h) rfl rfl rfl (fun w' hS => (E.Runs.assign rfl rfl)) ?_
            refine E.GH.done (by kernel_rfl) ?_
            refine E.QG.code ?_
            refine E.CG.ret ?_
            exact E.QG.result rfl rfl ⟨by rw [bool_no hb (fun k => by obtain ⟨q1, q2, q3, q4, q5⟩ := k; rw [hqu] at q5; omega)], L⟩
        · refine E.GH.take (i := 31) rfl (by kernel_rfl) (by kernel_rfl) (by kernel_rfl) (by intro c a d v w h; cases d <;> exact h) rfl rfl rfl (fun w' hS => (E.Runs.pick_t rfl rfl rfl)) ?_
          refine E.GH.take (i := 32) rfl (by kernel_rfl) (by kernel_rfl) (by kernel_rfl) (by intro c a d v w h; cases d <;> exact h) rfl rfl rfl (fun w' hS => (E.Runs.move rfl rfl)) ?_
          refine E.GH.pass (i := 33) rfl (by kernel_rfl) (by kernel_rfl) (by kernel_rfl) (by intro c a d v w h; cases d <;> exact h) rfl rfl rfl ?_
          refine E.GH.pass (i := 34) rfl (by kernel_rfl) (by kernel_rfl) (by kernel_rfl) (by intro c a d v w h; cases d <;> exact h) rfl rfl rfl ?_
          refine E.GH.pass (i := 35) rfl (by kernel_rfl) (by kernel_rfl) (by kernel_rfl) (by intro c a d v w h; cases d <;> exact h) rfl rfl rfl ?_
          refine E.GH.pass (i := 36) rfl (by kernel_rfl) (by kernel_rfl) (by kernel_rfl) (by intro c a d v w h; cases d <;> exact h) rfl rfl rfl ?_
          refine E.GH.pass (i := 37) rfl (by kernel_rfl) (by kernel_rfl) (by kernel_rfl) (by intro c a d v w h; cases d <;> exact h) rfl rfl rfl ?_
          refine E.GH.pass (i := 38) rfl (by kernel_rfl) (by kernel_rfl) (by kernel_rfl) (by intro c a d v w h; cases d <;> exact h) rfl rfl rfl ?_
          refine E.GH.pass (i := 39) rfl (by kernel_rfl) (by kernel_rfl) (by kernel_rfl) (by intro c a d v w h; cases d <;> exact h) rfl rfl rfl ?_
          refine E.GH.pass (i := 40) rfl (by kernel_rfl) (by kernel_rfl) (by kernel_rfl) (by intro c a d v w h; cases d <;> exact h) rfl rfl rfl ?_
          refine E.GH.pass (i := 41) rfl (by kernel_rfl) (by kernel_rfl) (by kernel_rfl) (by intro c a d v w h; cases d <;> exact h) rfl rfl rfl ?_
          refine E.GH.pass (i := 42) rfl (by kernel_rfl) (by kernel_rfl) (by kernel_rfl) (by intro c a d v w h; cases d <;> exact h) rfl rfl rfl ?_
          refine E.GH.take (i := 43) rfl (by kernel_rfl) (by kernel_rfl) (by kernel_rfl) (by intro c a d v w h; cases d <;> exact h) rfl rfl rfl (fun w' hS => (E.Runs.pick_f rfl rfl rfl)) ?_
          refine E.GH.take (i := 44) rfl (by kernel_rfl) (by kernel_rfl) (by kernel_rfl) (by intro c a d v w h; cases d <;> exact h) rfl rfl rfl (fun w' hS => (E.Runs.assign rfl rfl)) ?_
          refine E.GH.done (by kernel_rfl) ?_
          refine E.QG.code ?_
          refine E.CG.ret ?_
          exact E.QG.result rfl rfl ⟨by rw [bool_no hb (fun k => by obtain ⟨q1, q2, q3, q4, q5⟩ := k; rw [hqu] at q4; omega)], L⟩
      · refine E.GH.take (i := 17) rfl (by kernel_rfl) (by kernel_rfl) (by kernel_rfl) (by intro c a d v w h; cases d <;> exact h) rfl rfl rfl (fun w' hS => (E.Runs.pick_t rfl rfl rfl)) ?_
        refine E.GH.take (i := 18) rfl (by kernel_rfl) (by kernel_rfl) (by kernel_rfl) (by intro c a d v w h; cases d <;> exact h) rfl rfl rfl (fun w' hS => (E.Runs.move rfl rfl)) ?_
        refine E.GH.pass (i := 19) rfl (by kernel_rfl) (by kernel_rfl) (by kernel_rfl) (by intro c a d v w h; cases d <;> exact h) rfl rfl rfl ?_
        refine E.GH.pass (i := 20) rfl (by kernel_rfl) (by kernel_rfl) (by kernel_rfl) (by intro c a d v w h; cases d <;> exact h) rfl rfl rfl ?_
        refine E.GH.pass (i := 21) rfl (by kernel_rfl) (by kernel_rfl) (by kernel_rfl) (by intro c a d v w h; cases d <;> exact h) rfl rfl rfl ?_
        refine E.GH.pass (i := 22) rfl (by kernel_rfl) (by kernel_rfl) (by kernel_rfl) (by intro c a d v w h; cases d <;> exact h) rfl rfl rfl ?_
        refine E.GH.pass (i := 23) rfl (by kernel_rfl) (by kernel_rfl) (by kernel_rfl) (by intro c a d v w h; cases d <;> exact h) rfl rfl rfl ?_
        refine E.GH.pass (i := 24) rfl (by kernel_rfl) (by kernel_rfl) (by kernel_rfl) (by intro c a d v w h; cases d <;> exact h) rfl rfl rfl ?_
        refine E.GH.pass (i := 25) rfl (by kernel_rfl) (by kernel_rfl) (by kernel_rfl) (by intro c a d v w h; cases d <;> exact h) rfl rfl rfl ?_
        refine E.GH.pass (i := 26) rfl (by kernel_rfl) (by kernel_rfl) (by kernel_rfl) (by intro c a d v w h; cases d <;> exact h) rfl rfl rfl ?_
        refine E.GH.pass (i := 27) rfl (by kernel_rfl) (by kernel_rfl) (by kernel_rfl) (by intro c a d v w h; cases d <;> exact h) rfl rfl rfl ?_
        refine E.GH.pass (i := 28) rfl (by kernel_rfl) (by kernel_rfl) (by kernel_rfl) (by intro c a d v w h; cases d <;> exact h) rfl rfl rfl ?_
        refine E.GH.pass (i := 29) rfl (by kernel_rfl) (by kernel_rfl) (by kernel_rfl) (by intro c a d v w h; cases d <;> exact h) rfl rfl rfl ?_
        refine E.GH.pass (i := 30) rfl (by kernel_rfl) (by kernel_rfl) (by kernel_rfl) (by intro c a d v w h; cases d <;> exact h) rfl rfl rfl ?_
        refine E.GH.take (i := 31) rfl (by kernel_rfl) (by kernel_rfl) (by kernel_rfl) (by intro c a d v w h; cases d <;> exact h) rfl rfl rfl (fun w' hS => (E.Runs.pick_f rfl rfl rfl)) ?_
        refine E.GH.take (i := 32) rfl (by kernel_rfl) (by kernel_rfl) (by kernel_rfl) (by intro c a d v w h; cases d <;> exact h) rfl rfl rfl (fun w' hS => (E.Runs.move rfl rfl)) ?_
        refine E.GH.pass (i := 33) rfl (by kernel_rfl) (by kernel_rfl) (by kernel_rfl) (by intro c a d v w h; cases d <;> exact h) rfl rfl rfl ?_
        refine E.GH.pass (i := 34) rfl (by kernel_rfl) (by kernel_rfl) (by kernel_rfl) (by intro c a d v w h; cases d <;> exact h) rfl rfl rfl ?_
        refine E.GH.pass (i := 35) rfl (by kernel_rfl) (by kernel_rfl) (by kernel_rfl) (by intro c a d v w h; cases d <;> exact h) rfl rfl rfl ?_
        refine E.GH.pass (i := 36) rfl (by kernel_rfl) (by kernel_rfl) (by kernel_rfl) (by intro c a d v w h; cases d <;> exact h) rfl rfl rfl ?_
        refine E.GH.pass (i := 37) rfl (by kernel_rfl) (by kernel_rfl) (by kernel_rfl) (by intro c a d v w h; cases d <;> exact h) rfl rfl rfl ?_
        refine E.GH.pass (i := 38) rfl (by kernel_rfl) (by kernel_rfl) (by kernel_rfl) (by intro c a d v w h; cases d <;> exact h) rfl rfl rfl ?_
        refine E.GH.pass (i := 39) rfl (by kernel_rfl) (by kernel_rfl) (by kernel_rfl) (by intro c a d v w h; cases d <;> exact h) rfl rfl rfl ?_
        refine E.GH.pass (i := 40) rfl (by kernel_rfl) (by kernel_rfl) (by kernel_rfl) (by intro c a d v w h; cases d <;> exact h) rfl rfl rfl ?_
        refine E.GH.pass (i := 41) rfl (by kernel_rfl) (by kernel_rfl) (by kernel_rfl) (by intro c a d v w h; cases d <;> exact h) rfl rfl rfl ?_
        refine E.GH.pass (i := 42) rfl (by kernel_rfl) (by kernel_rfl) (by kernel_rfl) (by intro c a d v w h; cases d <;> exact h) rfl rfl rfl ?_
        refine E.GH.take (i := 43) rfl (by kernel_rfl) (by kernel_rfl) (by kernel_rfl) (by intro c a d v w h; cases d <;> exact h) rfl rfl rfl (fun w' hS => (E.Runs.pick_f rfl rfl rfl)) ?_
        refine E.GH.take (i := 44) rfl (by kernel_rfl) (by kernel_rfl) (by kernel_rfl) (by intro c a d v w h; cases d <;> exact h) rfl rfl rfl (fun w' hS => (E.Runs.assign rfl rfl)) ?_
        refine E.GH.done (by kernel_rfl) ?_
        refine E.QG.code ?_
        refine E.CG.ret ?_
        exact E.QG.result rfl rfl ⟨by rw [bool_no hb (fun k => by obtain ⟨q1, q2, q3, q4, q5⟩ := k; omega)], L⟩
    · refine E.GH.one (i := 11) (by kernel_rfl) rfl ?_
      refine E.GO.st rfl rfl rfl (E.ST.call rfl ent38 (E.evc rfl (E.evc rfl (E.evc rfl E.evn))) ((within_o x.f0 0 T false (iff_of_false Bool.false_ne_true h18) _).mono ?_))
      rintro e w18 ⟨rfl, l18⟩
      refine ⟨_, rfl, hh.trans (E.gbB l18), ?_⟩
      replace hh := hh.trans (E.gbB l18)
      replace b3 := blk_below b3 l18
      replace b5 := blk_below b5 l18
      replace L := below_step L l18
      refine E.GH.take (i := 12) rfl (by kernel_rfl) (by kernel_rfl) (by kernel_rfl) (by intro c a d v w h; cases d <;> exact h) rfl rfl rfl (fun w' hS => (E.Runs.pick_t rfl rfl rfl)) ?_
      refine E.GH.take (i := 13) rfl (by kernel_rfl) (by kernel_rfl) (by kernel_rfl) (by intro c a d v w h; cases d <;> exact h) rfl rfl rfl (fun w' hS => (E.Runs.move rfl rfl)) ?_
      refine E.GH.pass (i := 14) rfl (by kernel_rfl) (by kernel_rfl) (by kernel_rfl) (by intro c a d v w h; cases d <;> exact h) rfl rfl rfl ?_
      refine E.GH.pass (i := 15) rfl (by kernel_rfl) (by kernel_rfl) (by kernel_rfl) (by intro c a d v w h; cases d <;> exact h) rfl rfl rfl ?_
      refine E.GH.pass (i := 16) rfl (by kernel_rfl) (by kernel_rfl) (by kernel_rfl) (by intro c a d v w h; cases d <;> exact h) rfl rfl rfl ?_
      refine E.GH.take (i := 17) rfl (by kernel_rfl) (by kernel_rfl) (by kernel_rfl) (by intro c a d v w h; cases d <;> exact h) rfl rfl rfl (fun w' hS => (E.Runs.pick_f rfl rfl rfl)) ?_
      refine E.GH.take (i := 18) rfl (by kernel_rfl) (by kernel_rfl) (by kernel_rfl) (by intro c a d v w h; cases d <;> exact h) rfl rfl rfl (fun w' hS => (E.Runs.move rfl rfl)) ?_
      refine E.GH.pass (i := 19) rfl (by kernel_rfl) (by kernel_rfl) (by kernel_rfl) (by intro c a d v w h; cases d <;> exact h) rfl rfl rfl ?_
      refine E.GH.pass (i := 20) rfl (by kernel_rfl) (by kernel_rfl) (by kernel_rfl) (by intro c a d v w h; cases d <;> exact h) rfl rfl rfl ?_
      refine E.GH.pass (i := 21) rfl (by kernel_rfl) (by kernel_rfl) (by kernel_rfl) (by intro c a d v w h; cases d <;> exact h) rfl rfl rfl ?_
      refine E.GH.pass (i := 22) rfl (by kernel_rfl) (by kernel_rfl) (by kernel_rfl) (by intro c a d v w h; cases d <;> exact h) rfl rfl rfl ?_
      refine E.GH.pass (i := 23) rfl (by kernel_rfl) (by kernel_rfl) (by kernel_rfl) (by intro c a d v w h; cases d <;> exact h) rfl rfl rfl ?_
      refine E.GH.pass (i := 24) rfl (by kernel_rfl) (by kernel_rfl) (by kernel_rfl) (by intro c a d v w h; cases d <;> exact h) rfl rfl rfl ?_
      refine E.GH.pass (i := 25) rfl (by kernel_rfl) (by kernel_rfl) (by kernel_rfl) (by intro c a d v w h; cases d <;> exact h) rfl rfl rfl ?_
      refine E.GH.pass (i := 26) rfl (by kernel_rfl) (by kernel_rfl) (by kernel_rfl) (by intro c a d v w h; cases d <;> exact h) rfl rfl rfl ?_
      refine E.GH.pass (i := 27) rfl (by kernel_rfl) (by kernel_rfl) (by kernel_rfl) (by intro c a d v w h; cases d <;> exact h) rfl rfl rfl ?_
      refine E.GH.pass (i := 28) rfl (by kernel_rfl) (by kernel_rfl) (by kernel_rfl) (by intro c a d v w h; cases d <;> exact h) rfl rfl rfl ?_
      refine E.GH.pass (i := 29) rfl (by kernel_rfl) (by kernel_rfl) (by kernel_rfl) (by intro c a d v w h; cases d <;> exact h) rfl rfl rfl ?_
      refine E.GH.pass (i := 30) rfl (by kernel_rfl) (by kernel_rfl) (by kernel_rfl) (by intro c a d v w h; cases d <;> exact h) rfl rfl rfl ?_
      refine E.GH.take (i := 31) rfl (by kernel_rfl) (by kernel_rfl) (by kernel_rfl) (by intro c a d v w h; cases d <;> exact h) rfl rfl rfl (fun w' hS => (E.Runs.pick_f rfl rfl rfl)) ?_
      refine E.GH.take (i := 32) rfl (by kernel_rfl) (by kernel_rfl) (by kernel_rfl) (by intro c a d v w h; cases d <;> exact h) rfl rfl rfl (fun w' hS => (E.Runs.move rfl rfl)) ?_
      refine E.GH.pass (i := 33) rfl (by kernel_rfl) (by kernel_rfl) (by kernel_rfl) (by intro c a d v w h; cases d <;> exact h) rfl rfl rfl ?_
      refine E.GH.pass (i := 34) rfl (by kernel_rfl) (by kernel_rfl) (by kernel_rfl) (by intro c a d v w h; cases d <;> exact h) rfl rfl rfl ?_
      refine E.GH.pass (i := 35) rfl (by kernel_rfl) (by kernel_rfl) (by kernel_rfl) (by intro c a d v w h; cases d <;> exact h) rfl rfl rfl ?_
      refine E.GH.pass (i := 36) rfl (by kernel_rfl) (by kernel_rfl) (by kernel_rfl) (by intro c a d v w h; cases d <;> exact h) rfl rfl rfl ?_
      refine E.GH.pass (i := 37) rfl (by kernel_rfl) (by kernel_rfl) (by kernel_rfl) (by intro c a d v w h; cases d <;> exact h) rfl rfl rfl ?_
      refine E.GH.pass (i := 38) rfl (by kernel_rfl) (by kernel_rfl) (by kernel_rfl) (by intro c a d v w h; cases d <;> exact h) rfl rfl rfl ?_
      refine E.GH.pass (i := 39) rfl (by kernel_rfl) (by kernel_rfl) (by kernel_rfl) (by intro c a d v w h; cases d <;> exact h) rfl rfl rfl ?_
      refine E.GH.pass (i := 40) rfl (by kernel_rfl) (by kernel_rfl) (by kernel_rfl) (by intro c a d v w h; cases d <;> exact h) rfl rfl rfl ?_
      refine E.GH.pass (i := 41) rfl (by kernel_rfl) (by kernel_rfl) (by kernel_rfl) (by intro c a d v w h; cases d <;> exact h) rfl rfl rfl ?_
      refine E.GH.pass (i := 42) rfl (by kernel_rfl) (by kernel_rfl) (by kernel_rfl) (by intro c a d v w h; cases d <;> exact h) rfl rfl rfl ?_
      refine E.GH.take (i := 43) rfl (by kernel_rfl) (by kernel_rfl) (by kernel_rfl) (by intro c a d v w h; cases d <;> exact h) rfl rfl rfl (fun w' hS => (E.Runs.pick_f rfl rfl rfl)) ?_
      refine E.GH.take (i := 44) rfl (by kernel_rfl) (by kernel_rfl) (by kernel_rfl) (by intro c a d v w h; cases d <;> exact h) rfl rfl rfl (fun w' hS => (E.Runs.assign rfl rfl)) ?_
      refine E.GH.done (by kernel_rfl) ?_
      refine E.QG.code ?_
      refine E.CG.ret ?_
      exact E.QG.result rfl rfl ⟨by rw [bool_no hb (fun k => by obtain ⟨q1, q2, q3, q4, q5⟩ := k; exact h18 q2)], L⟩
  · refine E.GH.one (i := 6) (by kernel_rfl) rfl ?_
    refine E.GO.st rfl rfl rfl (E.ST.call rfl ent38 (E.evc rfl (E.evc rfl (E.evc rfl E.evn))) ((within_o x.f1 0 (qs.length - 1) false (iff_of_false Bool.false_ne_true h13) _).mono ?_))
    rintro e w13 ⟨rfl, l13⟩
    refine ⟨_, rfl, hh.trans (E.gbB l13), ?_⟩
    replace hh := hh.trans (E.gbB l13)
    replace b3 := blk_below b3 l13
    replace b5 := blk_below b5 l13
    replace L := below_step L l13
    refine E.GH.take (i := 7) rfl (by kernel_rfl) (by kernel_rfl) (by kernel_rfl) (by intro c a d v w h; cases d <;> exact h) rfl rfl rfl (fun w' hS => (E.Runs.move rfl rfl)) ?_
    refine E.GH.pass (i := 8) rfl (by kernel_rfl) (by kernel_rfl) (by kernel_rfl) (by intro c a d v w h; cases d <;> exact h) rfl rfl rfl ?_
    refine E.GH.pass (i := 9) rfl (by kernel_rfl) (by kernel_rfl) (by kernel_rfl) (by intro c a d v w h; cases d <;> exact h) rfl rfl rfl ?_
    refine E.GH.pass (i := 10) rfl (by kernel_rfl) (by kernel_rfl) (by kernel_rfl) (by intro c a d v w h; cases d <;> exact h) rfl rfl rfl ?_
    refine E.GH.pass (i := 11) rfl (by kernel_rfl) (by kernel_rfl) (by kernel_rfl) (by intro c a d v w h; cases d <;> exact h) rfl rfl rfl ?_
    refine E.GH.take (i := 12) rfl (by kernel_rfl) (by kernel_rfl) (by kernel_rfl) (by intro c a d v w h; cases d <;> exact h) rfl rfl rfl (fun w' hS => (E.Runs.pick_f rfl rfl rfl)) ?_
    refine E.GH.take (i := 13) rfl (by kernel_rfl) (by kernel_rfl) (by kernel_rfl) (by intro c a d v w h; cases d <;> exact h) rfl rfl rfl (fun w' hS => (E.Runs.move rfl rfl)) ?_
    refine E.GH.pass (i := 14) rfl (by kernel_rfl) (by kernel_rfl) (by kernel_rfl) (by intro c a d v w h; cases d <;> exact h) rfl rfl rfl ?_
    refine E.GH.pass (i := 15) rfl (by kernel_rfl) (by kernel_rfl) (by kernel_rfl) (by intro c a d v w h; cases d <;> exact h) rfl rfl rfl ?_
    refine E.GH.pass (i := 16) rfl (by kernel_rfl) (by kernel_rfl) (by kernel_rfl) (by intro c a d v w h; cases d <;> exact h) rfl rfl rfl ?_
    refine E.GH.take (i := 17) rfl (by kernel_rfl) (by kernel_rfl) (by kernel_rfl) (by intro c a d v w h; cases d <;> exact h) rfl rfl rfl (fun w' hS => (E.Runs.pick_f rfl rfl rfl)) ?_
    refine E.GH.take (i := 18) rfl (by kernel_rfl) (by kernel_rfl) (by kernel_rfl) (by intro c a d v w h; cases d <;> exact h) rfl rfl rfl (fun w' hS => (E.Runs.move rfl rfl)) ?_
    refine E.GH.pass (i := 19) rfl (by kernel_rfl) (by kernel_rfl) (by kernel_rfl) (by intro c a d v w h; cases d <;> exact h) rfl rfl rfl ?_
    refine E.GH.pass (i := 20) rfl (by kernel_rfl) (by kernel_rfl) (by kernel_rfl) (by intro c a d v w h; cases d <;> exact h) rfl rfl rfl ?_
    refine E.GH.pass (i := 21) rfl (by kernel_rfl) (by kernel_rfl) (by kernel_rfl) (by intro c a d v w h; cases d <;> exact h) rfl rfl rfl ?_
    refine E.GH.pass (i := 22) rfl (by kernel_rfl) (by kernel_rfl) (by kernel_rfl) (by intro c a d v w h; cases d <;> exact h) rfl rfl rfl ?_
    refine E.GH.pass (i := 23) rfl (by kernel_rfl) (by kernel_rfl) (by kernel_rfl) (by intro c a d v w h; cases d <;> exact h) rfl rfl rfl ?_
    refine E.GH.pass (i := 24) rfl (by kernel_rfl) (by kernel_rfl) (by kernel_rfl) (by intro c a d v w h; cases d <;> exact h) rfl rfl rfl ?_
    refine E.GH.pass (i := 25) rfl (by kernel_rfl) (by kernel_rfl) (by kernel_rfl) (by intro c a d v w h; cases d <;> exact h) rfl rfl rfl ?_
    refine E.GH.pass (i := 26) rfl (by kernel_rfl) (by kernel_rfl) (by kernel_rfl) (by intro c a d v w h; cases d <;> exact h) rfl rfl rfl ?_
    refine E.GH.pass (i := 27) rfl (by kernel_rfl) (by kernel_rfl) (by kernel_rfl) (by intro c a d v w h; cases d <;> exact h) rfl rfl rfl ?_
    refine E.GH.pass (i := 28) rfl (by kernel_rfl) (by kernel_rfl) (by kernel_rfl) (by intro c a d v w h; cases d <;> exact h) rfl rfl rfl ?_
    refine E.GH.pass (i := 29) rfl (by kernel_rfl) (by kernel_rfl) (by kernel_rfl) (by intro c a d v w h; cases d <;> exact h) rfl rfl rfl ?_
    refine E.GH.pass (i := 30) rfl (by kernel_rfl) (by kernel_rfl) (by kernel_rfl) (by intro c a d v w h; cases d <;> exact h) rfl rfl rfl ?_
    refine E.GH.take (i := 31) rfl (by kernel_rfl) (by kernel_rfl) (by kernel_rfl) (by intro c a d v w h; cases d <;> exact h) rfl rfl rfl (fun w' hS => (E.Runs.pick_f rfl rfl rfl)) ?_
    refine E.GH.take (i := 32) rfl (by kernel_rfl) (by kernel_rfl) (by kernel_rfl) (by intro c a d v w h; cases d <;> exact h) rfl rfl rfl (fun w' hS => (E.Runs.move rfl rfl)) ?_
    refine E.GH.pass (i := 33) rfl (by kernel_rfl) (by kernel_rfl) (by kernel_rfl) (by intro c a d v w h; cases d <;> exact h) rfl rfl rfl ?_
    refine E.GH.pass (i := 34) rfl (by kernel_rfl) (by kernel_rfl) (by kernel_rfl) (by intro c a d v w h; cases d <;> exact h) rfl rfl rfl ?_
    refine E.GH.pass (i := 35) rfl (by kernel_rfl) (by kernel_rfl) (by kernel_rfl) (by intro c a d v w h; cases d <;> exact h) rfl rfl rfl ?_
    refine E.GH.pass (i := 36) rfl (by kernel_rfl) (by kernel_rfl) (by kernel_rfl) (by intro c a d v w h; cases d <;> exact h) rfl rfl rfl ?_
    refine E.GH.pass (i := 37) rfl (by kernel_rfl) (by kernel_rfl) (by kernel_rfl) (by intro c a d v w h; cases d <;> exact h) rfl rfl rfl ?_
    refine E.GH.pass (i := 38) rfl (by kernel_rfl) (by kernel_rfl) (by kernel_rfl) (by intro c a d v w h; cases d <;> exact h) rfl rfl rfl ?_
    refine E.GH.pass (i := 39) rfl (by kernel_rfl) (by kernel_rfl) (by kernel_rfl) (by intro c a d v w h; cases d <;> exact h) rfl rfl rfl ?_
    refine E.GH.pass (i := 40) rfl (by kernel_rfl) (by kernel_rfl) (by kernel_rfl) (by intro c a d v w h; cases d <;> exact h) rfl rfl rfl ?_
    refine E.GH.pass (i := 41) rfl (by kernel_rfl) (by kernel_rfl) (by kernel_rfl) (by intro c a d v w h; cases d <;> exact h) rfl rfl rfl ?_
    refine E.GH.pass (i := 42) rfl (by kernel_rfl) (by kernel_rfl) (by kernel_rfl) (by intro c a d v w h; cases d <;> exact h) rfl rfl rfl ?_
    refine E.GH.take (i := 43) rfl (by kernel_rfl) (by kernel_rfl) (by kernel_rfl) (by intro c a d v w h; cases d <;> exact h) rfl rfl rfl (fun w' hS => (E.Runs.pick_f rfl rfl rfl)) ?_
    refine E.GH.take (i := 44) rfl (by kernel_rfl) (by kernel_rfl) (by kernel_rfl) (by intro c a d v w h; cases d <;> exact h) rfl rfl rfl (fun w' hS => (E.Runs.assign rfl rfl)) ?_
    refine E.GH.done (by kernel_rfl) ?_
    refine E.QG.code ?_
    refine E.CG.ret ?_
    exact E.QG.result rfl rfl ⟨by rw [bool_no hb (fun k => by obtain ⟨q1, q2, q3, q4, q5⟩ := k; exact h13 q1)], L⟩

end Go.Proofs.Ytmnjlnkfihklgaa.T
namespace Go.Proofs.Ytmnjlnkfihklgaa.T
open Go.RowKit Go.Proofs.YtmnjlnkfihklgaaW.PrintWords Go.Proofs.YtmnjlnkfihklgaaW.PrintMore
open Go.Proofs.Ytmnjlnkfihklgaa.P
set_option linter.unusedVariables false
set_option linter.unusedSimpArgs false
/-! ### The key of a use -/
def ek72 (x : S72) : Value := .agg #[.int .i64 x.f0, .int .i64 x.f1]
abbrev evI (n : Int) : Value := .int .i64 n
instance : DecidableEq S72 := fun x y => decidable_of_iff (x.f0 = y.f0 ∧ x.f1 = y.f1) (by
  obtain ⟨a, b⟩ := x
  obtain ⟨c, d⟩ := y
  simp)
theorem ek72_inj {x y : S72} (h : ek72 x = ek72 y) : x = y := by
  unfold ek72 at h
  obtain ⟨a, b⟩ := x
  obtain ⟨c, d⟩ := y
  simp at h
  rw [h.1, h.2]
set_option maxRecDepth 100000 in
set_option maxHeartbeats 4000000 in
theorem ek72_equal (x y : S72) (W : World) : (Op.equal 72 (ek72 x) (ek72 y)).run Try.prog W = .ok (decide (x = y)) W := by
  have hu72 := Try.underlying72
  have hu3 := Try.underlying3
  have e : decide (x = y) = (decide (x.f0 = y.f0) && decide (x.f1 = y.f1)) := by
    obtain ⟨a, b⟩ := x
    obtain ⟨c, d⟩ := y
    simp
  rw [e]
  show (Op.equalIn (9999 + 1) 72 _ _).run Try.prog W = _
  refine eqA_of hu72 (by kernel_rfl) ?_
  refine eqf_cons (a := .int .i64 x.f0) (b := .int .i64 y.f0) (r := decide (x.f0 = y.f0)) (by rfl) (by go_simp) (by go_simp) ?_ ?_
  · exact run_equalIn_int W 9998 3 .i64 .i64 x.f0 y.f0 hu3
  · refine eqf_last (a := .int .i64 x.f1) (b := .int .i64 y.f1) (r := decide (x.f1 = y.f1)) (by rfl) (by go_simp) (by go_simp) ?_
    exact run_equalIn_int W 9998 3 .i64 .i64 x.f1 y.f1 hu3
set_option maxRecDepth 100000 in
set_option maxHeartbeats 4000000 in
theorem ek72_check (em : Bool) (x : S72) (W : World) : (Instr.checkKey em 10000 72 (ek72 x)).run Try.prog W = .ok () W := by
  have hu72 := Try.underlying72
  have hu3 := Try.underlying3
  show (Instr.checkKey em (9999 + 1) 72 (.agg #[.int .i64 x.f0, .int .i64 x.f1])).run Try.prog W = _
  rw [Instr.checkKey]
  simp only [Sem.run_bind, run_underlying hu72, Result.andThen]
  go_simp
  have h9 : ∀ (v : Int) (W : World), (Instr.checkKey em 9999 3 (.int .i64 v)).run Try.prog W = .ok () W := fun v W => MapKept.run_checkKey hu3 (by simp [MapKept.IsKey]) em 9998
  simp [h9, Result.andThen]
theorem k72T : E.KeyT Try.prog 72 ek72 := E.KeyT.of_equal Try.underlying72 ek72_inj ek72_equal (fun x v => rfl) ek72_check (fun x => by simp [ek72, Instr.sameBits])
/-! ### The changes -/
def chF (qs : List S45) (r m : Int) (x : S35) : Int := (if (qs.getD x.f1.toNat P.z45).f1 = r ∧ x.f0 + (qs.getD x.f1.toNat P.z45).f3 = m then x.f2 else 0) - (if (qs.getD x.f1.toNat P.z45).f0 = r ∧ x.f0 = m then x.f2 else 0)
def chM (qs : List S45) (l : List S35) (m r : Nat) : Int := sumM (chF qs r m) l
def matR (F : Nat → Nat → Int) (R m : Nat) : List Int := (List.range R).map (F m)
def mat (F : Nat → Nat → Int) (T R : Nat) : List (List Int) := (List.range (T + 1)).map (matR F R)
def setF (F : Nat → Nat → Int) (m0 r0 : Nat) (y : Int) (m r : Nat) : Int := if m = m0 ∧ r = r0 then y else F m r
theorem matR_len (F : Nat → Nat → Int) (R m : Nat) : (matR F R m).length = R := by simp [matR]
theorem mat_len (F : Nat → Nat → Int) (T R : Nat) : (mat F T R).length = T + 1 := by simp [mat]
theorem mat_row (F : Nat → Nat → Int) {T R m : Nat} (h : m ≤ T) : (mat F T R)[m]? = some (matR F R m) := by
  unfold mat
  rw [List.getElem?_map, List.getElem?_range (by omega)]
  rfl
theorem matR_get (F : Nat → Nat → Int) {R m r : Nat} (h : r < R) : (matR F R m)[r]? = some (F m r) := by
  unfold matR
  rw [List.getElem?_map, List.getElem?_range h]
  rfl
theorem matR_congr {F G : Nat → Nat → Int} {R m : Nat} (h : ∀ r, r < R → F m r = G m r) : matR F R m = matR G R m := by
  unfold matR
  exact List.map_congr_left fun r hr => h r (List.mem_range.mp hr)
theorem mat_congr {F G : Nat → Nat → Int} {T R : Nat} (h : ∀ m r, m ≤ T → r < R → F m r = G m r) : mat F T R = mat G T R := by
  unfold mat
  exact List.map_congr_left fun m hm => matR_congr fun r hr => h m r (by have := List.mem_range.mp hm; omega) hr
theorem mat_set (F : Nat → Nat → Int) {T R m r : Nat} (hm : m ≤ T) (hr : r < R) (y : Int) : (mat F T R).set m ((matR F R m).set r y) = mat (setF F m r y) T R := by
  apply List.ext_getElem?
  intro i
  by_cases hi : i ≤ T
  · rw [mat_row _ hi]
    by_cases e : m = i
    · subst e
      rw [List.getElem?_set_self (by rw [mat_len]; omega)]
      congr 1
      apply List.ext_getElem?
      intro j
      by_cases hj : j < R
      · rw [matR_get _ hj]
        by_cases e2 : r = j
        · subst e2
          rw [List.getElem?_set_self (by rw [matR_len]; omega)]
          unfold setF
          rw [if_pos ⟨rfl, rfl⟩]
        · rw [List.getElem?_set_ne e2, matR_get _ hj]
          unfold setF
          rw [if_neg (fun z => e2 z.2.symm)]
      · rw [List.getElem?_eq_none (by rw [List.length_set, matR_len]; omega), List.getElem?_eq_none (by rw [matR_len]; omega)]
    · rw [List.getElem?_set_ne e, mat_row _ hi]
      congr 1
      refine matR_congr fun j hj => ?_
      unfold setF
      rw [if_neg (fun z => e z.1.symm)]
  · rw [List.getElem?_eq_none (by rw [List.length_set, mat_len]; omega), List.getElem?_eq_none (by rw [mat_len]; omega)]
theorem rowI_at {W : World} {base : Nat} {A : Option Addr} {n c : Nat} {xs : List Int} {i : Nat} {x : Int} (R : Kd.R kI 3 W base (fun _ => True) (.slice A n c) xs) (hi : xs[i]? = some x) :
    ∃ g, A = some ⟨g, 0, none⟩ ∧ base ≤ g ∧ W.cell? ⟨g, i * 1, none⟩ = some (.int .i64 x) ∧ W.frozen? ⟨g, i * 1, none⟩ = false ∧ (∃ cells, W.heap[g]? = some (.cells cells 3 (0, 0))) ∧
      (∀ y : Int, ∃ w', w' = W.setCell ⟨g, i * 1, none⟩ (.int .i64 y) ∧ Kd.R kI 3 w' base (fun _ => True) (.slice A n c) (xs.set i y) ∧ W.grownBy w' (some g)) := by
  have hil := (List.getElem?_eq_some_iff.1 hi).1
  obtain ⟨g, cap, hv, hb, hl, cells, hc⟩ := Kd.R_form R (by omega)
  have hn := (Kd.R_reads' R).1
  injection hv with hA hn' hc'
  subst hA hc'
  obtain ⟨cs, h1, h2, h3, h4⟩ := Kd.R_elem R 0 (i : Int) (by omega) (by omega)
  have hx : xs.getD i 0 = x := by simp [List.getD_eq_getElem?_getD, hi]
  rw [Int.toNat_natCast, hx] at h2
  obtain rfl : cs = [.int .i64 x] := h2
  rw [Int.toNat_natCast] at h3 h4
  refine ⟨g, rfl, hb, h3 0 _ rfl, h4 0, ⟨cells, hc⟩, fun y => ⟨_, rfl, ?_⟩⟩
  have := Kd.R_seg R (i : Int) (by omega) (by omega) (seg := [.int .i64 y]) (j := 0) h1 (by rw [Int.toNat_natCast]; exact h3) (by show 0 + 1 ≤ 1; decide) (x' := y) (okp := fun _ => False) (show kI.M _ _ _ y ([.int .i64 y] : List Value) from rfl) (fun _ hk => hk.elim)
  rw [Int.toNat_natCast] at this
  exact this
/-- Where Gone stands in memory. -/
structure Gs (w0 w : World) (g3 gO gM : Nat) (hs : List Value) (xss : List (List Int)) (vs : List Value) (Us : S72 → Int) : Prop where
  b3 : w.heap[g3]? = some (.cells hs.toArray 25 (0, 0))
  rows : Rows kI 3 22 w w0.heap.size gO xss vs
  mp : E.Mz ek72 evI 0 w gM Us
  hM : w0.heap.size ≤ gM
  bel : Below w0.heap.size w0 w
  size : w0.heap.size ≤ w.heap.size
section
variable {w0 w w' : World} {g3 gO gM : Nat} {hs : List Value} {xss : List (List Int)} {vs : List Value} {Us : S72 → Int}
theorem Gs.below (h : Gs w0 w g3 gO gM hs xss vs Us) (l : Below w.heap.size w w') : Gs w0 w' g3 gO gM hs xss vs Us :=
  ⟨blk_below h.b3 l, h.rows.below l, h.mp.below l, h.hM, below_step' h.bel h.size l, Nat.le_trans h.size l.size⟩
theorem Gs.grown {g : Nat} (h : Gs w0 w g3 gO gM hs xss vs Us) (hg : w.grownBy w' (some g)) (k : (∃ (t : Nat) (cs : Array Value), w.heap[g]? = some (.cells cs t (0, 0)) ∧ 3 ≠ t ∧ 22 ≠ t ∧ 25 ≠ t) ∧ w0.heap.size ≤ g) : Gs w0 w' g3 gO gM hs xss vs Us := by
  obtain ⟨⟨t, cs, hb, h1, h2, h3⟩, hl⟩ := k
  refine ⟨blk_grown h.b3 hg (E.nes (blk_ne h.b3 hb h3)), h.rows.other rfl hb h1 h2 hg, h.mp.grown hg (E.nes ?_), h.hM, h.bel.grown hg h.size (fun z ez => by cases ez; exact hl), Nat.le_trans h.size hg.size⟩
  rintro rfl
  obtain ⟨f, ⟨es, clock, l, q, _⟩, _⟩ := h.mp
  rw [hb] at q
  cases q
theorem map_ne {gM g t : Nat} {cs : Array Value} (h : E.Mz ek72 evI 0 w gM Us) (hb : w.heap[g]? = some (.cells cs t (0, 0))) : g ≠ gM := by
  rintro rfl
  obtain ⟨f, ⟨es, clock, l, q, _⟩, _⟩ := h
  rw [hb] at q
  cases q
/-- The map is written. -/
theorem Gs.mapped {Us' : S72 → Int} (h : Gs w0 w g3 gO gM hs xss vs Us) (hg : w.grownBy w' (some gM)) (hm : E.Mz ek72 evI 0 w' gM Us') : Gs w0 w' g3 gO gM hs xss vs Us' := by
  refine ⟨blk_grown h.b3 hg (E.nes (map_ne h.mp h.b3)), ⟨h.rows.len, h.rows.hb, blk_grown h.rows.blk hg (E.nes (map_ne h.mp h.rows.blk)), fun i v xs a b => ?_, h.rows.apart⟩, hm, h.hM, h.bel.grown hg h.size (fun z ez => by cases ez; exact h.hM), Nat.le_trans h.size hg.size⟩
  have R := h.rows.row i v xs a b
  refine Kd.R_mono (Kd.R_grown (Kd.R_tight rfl R) hg (fun k hk ek => ?_)) (fun _ _ => trivial)
  obtain ⟨_, inner, ho, _⟩ := R
  obtain ⟨cells, hc⟩ := own_typed ho k hk.symm
  injection ek with ek
  exact map_ne h.mp hc ek
/-- A row that was not there is made and stored. -/
theorem Gs.made {i : Nat} {v1 : Value} {ys : List Int} (h : Gs w0 w g3 gO gM hs xss vs Us) (hi : xss[i]? = some []) (l : Below w.heap.size w w') (r : Kd.R kI 3 w' w0.heap.size (fun _ => True) v1 ys) (hv1 : vs[i]? = some (.slice none 0 0)) (ho : ∃ b, v1.ownBlock = some b ∧ w.heap.size ≤ b) :
    w'.cell? ⟨gO, i * 1, none⟩ = some (.slice none 0 0) ∧ w'.frozen? ⟨gO, i * 1, none⟩ = false ∧ Gs w0 (w'.setCell ⟨gO, i * 1, none⟩ v1) g3 gO gM hs (xss.set i ys) (vs.set i v1) Us := by
  obtain ⟨a1, a2, a3, a4, a5⟩ := h.rows.appended (w' := w') rfl (by decide) hv1 hi (E.gbB l) r (.inr ho)
  have h' := h.below l
  refine ⟨a1, a2, blk_grown h'.b3 a4 (E.nes (blk_ne h'.b3 a5 (by decide))), a3, h'.mp.grown a4 (E.nes (fun e => map_ne h'.mp a5 e.symm)), h.hM, h'.bel.grown a4 h'.size (fun z ez => by cases ez; exact h.rows.hb), Nat.le_trans h'.size a4.size⟩
theorem Gs.entry {T R m r : Nat} {F : Nat → Nat → Int} (h : Gs w0 w g3 gO gM hs (mat F T R) vs Us) (hm : m ≤ T) (hr : r < R) :
    ∃ A c g, w.cell? ⟨gO, m * 1, none⟩ = some (.slice A R c) ∧ A = some ⟨g, 0, none⟩ ∧ w.cell? ⟨g, r * 1, none⟩ = some (.int .i64 (F m r)) ∧ w.frozen? ⟨g, r * 1, none⟩ = false ∧
      (∀ y : Int, ∃ w', w' = w.setCell ⟨g, r * 1, none⟩ (.int .i64 y) ∧ Gs w0 w' g3 gO gM hs (mat (setF F m r y) T R) vs Us ∧ CalmT 3 22 w w') := by
  obtain ⟨A, c, hv, R1⟩ := h.rows.at_ (mat_row F hm)
  rw [matR_len] at hv
  have R2 := R1
  rw [matR_len] at R2
  obtain ⟨g, eA, hg, c1, fr, ⟨cells, hc⟩, st⟩ := rowI_at R2 (matR_get F hr)
  refine ⟨A, c, g, h.rows.cell hv, eA, c1, fr, fun y => ?_⟩
  obtain ⟨w', hw', R', g'⟩ := st y
  have ho : (Value.slice A R c).ownBlock = some g := by rw [eA]; rfl
  refine ⟨w', hw', ⟨blk_grown h.b3 g' (E.nes (blk_ne h.b3 hc (by decide))), ?_, h.mp.grown g' (E.nes (fun e => map_ne h.mp hc e.symm)), h.hM, h.bel.grown g' h.size (fun z ez => by cases ez; exact hg), Nat.le_trans h.size g'.size⟩, CalmT.blk hc (.inl rfl) g'⟩
  rw [← mat_set F hm hr]
  exact h.rows.written rfl (by decide) hv (mat_row F hm) (by rw [ho]; exact g') R'
end
end Go.Proofs.Ytmnjlnkfihklgaa.T
namespace Go.Proofs.Ytmnjlnkfihklgaa.T
open Go.RowKit Go.Proofs.YtmnjlnkfihklgaaW.PrintWords Go.Proofs.YtmnjlnkfihklgaaW.PrintMore
open Go.Proofs.Ytmnjlnkfihklgaa.P
set_option linter.unusedVariables false
set_option linter.unusedSimpArgs false

theorem sumM_congr' {a b : S35 → Int} : ∀ {l : List S35}, (∀ x ∈ l, a x = b x) → sumM a l = sumM b l
  | [], _ => rfl
  | x :: l, h => by simp only [sumM, h x List.mem_cons_self, sumM_congr' (fun y hy => h y (List.mem_cons_of_mem _ hy))]

theorem info22 : (Try.prog.info? 22).map (fun i => (i.zero, i.size, i.bytes)) = some (some (.slice none 0 0), 1, 24) := by kernel_rfl
theorem zero3I (W : World) : (zeroValue 3).run Try.prog W = .ok (evI 0) W := by
  cases hq : Try.prog.info? 3 with
  | none => have := info3z; simp [hq] at this
  | some i =>
    have hi : i.zero = some (.int .i64 0) := by have := info3z; simpa [hq] using this
    simp [go_sem, zeroValue, typeInfo, hq, hi]
theorem lookU {N : Nat} {env : E.Env} {o : Oper} {w : World} {m y : Operand} {g : Nat} {Us : S72 → Int} {a b v : Int} (ho : o.op = .lookup 69 m y false) (hm : E.Ev env m (.map (some g))) (hy : E.Ev env y (.agg #[.int .i64 a, .int .i64 b])) (M : E.Mz ek72 evI 0 w g Us) (hv : Us ⟨a, b⟩ = v) : E.Runs Try.prog N env o w (.int .i64 v) := by
  subst hv
  exact E.Runs.lookupZ ho hm k72T (x := ⟨a, b⟩) hy Try.underlying69 zero3I M
/-- What Gone returns. -/
def GoneR (ps : List Int) (qs : List S45) (m : Int) (l : List S35) (N E : Int) : Prop := (¬ chkE ps qs m = 0 → N = 0 ∧ E = chkE ps qs m) ∧ (chkE ps qs m = 0 → (IsPl ps qs m.toNat l → N = outM qs l ∧ E = 0) ∧ (¬ IsPl ps qs m.toNat l → N = 0 ∧ E = 111))
/-! ### The rows are made -/
structure Gz (w0 w : World) (g3 gO : Nat) (hs : List Value) (xss : List (List Int)) (vs : List Value) : Prop where
  b3 : w.heap[g3]? = some (.cells hs.toArray 25 (0, 0))
  rows : Rows kI 3 22 w w0.heap.size gO xss vs
  bel : Below w0.heap.size w0 w
  size : w0.heap.size ≤ w.heap.size
section
variable {w0 w w' : World} {g3 gO gM : Nat} {hs : List Value} {xss : List (List Int)} {vs : List Value} {Us : S72 → Int}
theorem Gz.below (h : Gz w0 w g3 gO hs xss vs) (l : Below w.heap.size w w') : Gz w0 w' g3 gO hs xss vs :=
  ⟨blk_below h.b3 l, h.rows.below l, below_step' h.bel h.size l, Nat.le_trans h.size l.size⟩
theorem Gz.made {i : Nat} {v1 : Value} {ys : List Int} (h : Gz w0 w g3 gO hs xss vs) (hi : xss[i]? = some []) (l : Below w.heap.size w w') (r : Kd.R kI 3 w' w0.heap.size (fun _ => True) v1 ys) (hv1 : vs[i]? = some (.slice none 0 0)) (ho : ∃ b, v1.ownBlock = some b ∧ w.heap.size ≤ b) :
    w'.cell? ⟨gO, i * 1, none⟩ = some (.slice none 0 0) ∧ w'.frozen? ⟨gO, i * 1, none⟩ = false ∧ Gz w0 (w'.setCell ⟨gO, i * 1, none⟩ v1) g3 gO hs (xss.set i ys) (vs.set i v1) := by
  obtain ⟨a1, a2, a3, a4, a5⟩ := h.rows.appended (w' := w') rfl (by decide) hv1 hi (E.gbB l) r (.inr ho)
  have h' := h.below l
  exact ⟨a1, a2, blk_grown h'.b3 a4 (E.nes (blk_ne h'.b3 a5 (by decide))), a3, h'.bel.grown a4 h'.size (fun z ez => by cases ez; exact h.rows.hb), Nat.le_trans h'.size a4.size⟩
end
def mkR (i T R : Nat) : List (List Int) := (List.range (T + 1)).map fun m => if m < i then List.replicate R 0 else []
theorem mkR_first (T R : Nat) : mkR 0 T R = List.replicate (T + 1) [] := by
  unfold mkR
  apply List.ext_getElem <;> simp
theorem mkR_last {i T R : Nat} (h : T + 1 ≤ i) : mkR i T R = mat (fun _ _ => 0) T R := by
  unfold mkR mat matR
  refine List.map_congr_left fun m hm => ?_
  have := List.mem_range.mp hm
  rw [if_pos (by omega)]
  apply List.ext_getElem <;> simp
theorem mkR_at {i T R : Nat} (h : i < T + 1) : (mkR i T R)[i]? = some [] := by
  unfold mkR
  rw [List.getElem?_map, List.getElem?_range h]
  simp
theorem mkR_set {i T R : Nat} (h : i < T + 1) : (mkR i T R).set i (List.replicate R 0) = mkR (i + 1) T R := by
  apply List.ext_getElem
  · simp [mkR]
  · intro j h1 h2
    simp only [mkR, List.getElem_set, List.getElem_map, List.getElem_range]
    split
    · subst_vars; rw [if_pos (by omega)]
    · by_cases q : j < i
      · rw [if_pos q, if_pos (by omega)]
      · rw [if_neg q, if_neg (by omega)]
/-! ### The changes are bounded -/
theorem chM_b {qs : List S45} {T : Int} {l : List S35} {n : Nat} (h : ∀ k, k < n → ∀ x, l[k]? = some x → MvOk qs T x) (hn : n ≤ 1000000) (m r : Nat) : -20000000 ≤ chM qs (l.take n) m r ∧ chM qs (l.take n) m r ≤ 20000000 := by
  have h1 := sumM_b2 (h := chF qs r m) (b := 20) (l := l.take n) (fun x hx => by
    obtain ⟨k, hk⟩ := List.mem_iff_getElem?.mp hx
    rw [List.getElem?_take] at hk
    split at hk
    · next q =>
      obtain ⟨_, _, q3, q4, _⟩ := h k q x hk
      unfold chF
      split <;> split <;> omega
    · cases hk)
  have h2 : (l.take n).length ≤ n := by rw [List.length_take]; omega
  unfold chM
  omega
/-- Who is in a room while the changes up to a minute are carried out. -/
def thA (ps : List Int) (F : Nat → Nat → Int) (m r j : Nat) : Int := ps.getD j 0 + sumN (fun a => F a j) m + (if j < r then F m j else 0)
def thR (ps : List Int) (F : Nat → Nat → Int) (R m r : Nat) : List Int := (List.range R).map (thA ps F m r)
theorem thR_get {ps : List Int} {F : Nat → Nat → Int} {R m r j : Nat} (h : j < R) : (thR ps F R m r)[j]? = some (thA ps F m r j) := by
  unfold thR
  rw [List.getElem?_map, List.getElem?_range h]
  rfl
theorem thR_first (ps : List Int) (F : Nat → Nat → Int) : thR ps F ps.length 0 0 = ps := by
  apply List.ext_getElem
  · simp [thR]
  · intro j h1 h2
    simp [thR, thA, sumN, List.getD_eq_getElem?_getD, h2]
theorem thR_next (ps : List Int) (F : Nat → Nat → Int) {R r : Nat} (m : Nat) (h : R ≤ r) : thR ps F R m r = thR ps F R (m + 1) 0 := by
  unfold thR
  refine List.map_congr_left fun j hj => ?_
  have := List.mem_range.mp hj
  unfold thA
  rw [if_pos (by omega), if_neg (by omega), sumN]
  omega
theorem thR_set (ps : List Int) (F : Nat → Nat → Int) {R r : Nat} (m : Nat) (h : r < R) : (thR ps F R m r).set r (thA ps F m r r + F m r) = thR ps F R m (r + 1) := by
  apply List.ext_getElem
  · simp [thR]
  · intro j h1 h2
    simp only [thR, List.getElem_set, List.getElem_map, List.getElem_range]
    split
    · subst_vars
      unfold thA
      rw [if_neg (by omega), if_pos (by omega)]
      omega
    · unfold thA
      by_cases q : j < r
      · rw [if_pos q, if_pos (by omega)]
      · rw [if_neg q, if_neg (by omega)]
theorem thA_after (ps : List Int) (F : Nat → Nat → Int) (m r : Nat) : thA ps F m (r + 1) r = ps.getD r 0 + sumN (fun a => F a r) (m + 1) := by
  unfold thA
  rw [if_pos (by omega), sumN]
  omega
theorem sumN_b2 {F : Nat → Int} {b : Int} (h : ∀ k, -b ≤ F k ∧ F k ≤ b) : ∀ n : Nat, -(b * n) ≤ sumN F n ∧ sumN F n ≤ b * n
  | 0 => by simp [sumN]
  | n + 1 => by
    have h1 := sumN_b2 h n
    have h2 := h n
    have h3 : b * ((n + 1 : Nat) : Int) = b * n + b := by push_cast; rw [Int.mul_add, Int.mul_one]
    rw [h3]
    simp only [sumN]
    omega
theorem sumN_sumM (G : Nat → S35 → Int) (n : Nat) : ∀ l : List S35, sumN (fun a => sumM (G a) l) n = sumM (fun x => sumN (fun a => G a x) n) l
  | [] => by simp only [sumM]; exact sumN_zero n
  | x :: l => by simp only [sumM]; rw [sumN_add, sumN_sumM G n l]
theorem sumN_pick (u : Nat) (v : Int) (p : Prop) [Decidable p] (n : Nat) : sumN (fun a => if p ∧ (u : Int) = (a : Nat) then v else 0) n = if p ∧ u < n then v else 0 := by
  by_cases hu : u < n
  · rw [sumN_eq (u := u) hu]
    · by_cases hp : p
      · rw [if_pos ⟨hp, rfl⟩, if_pos ⟨hp, hu⟩]
      · rw [if_neg (fun z => hp z.1), if_neg (fun z => hp z.1)]
    · intro a _ ha
      exact if_neg (fun z => ha (by have := z.2; omega))
  · rw [if_neg (fun z => hu z.2)]
    rw [sumN_congr (b := fun _ => 0) (fun a ha => if_neg (fun z => by have := z.2; omega)), sumN_zero]
/-- All changes up to a minute are who is there. -/
theorem ch_th {ps : List Int} {qs : List S45} {T : Int} {l : List S35} (hok : HOk ps qs) (h : ∀ x ∈ l, MvOk qs T x) (r m : Nat) : ps.getD r 0 + sumN (fun a => chM qs l a r) (m + 1) = thM ps qs l r m := by
  unfold thM chM
  rw [sumN_sumM]
  congr 1
  refine sumM_congr' fun x hx => ?_
  obtain ⟨⟨a1, a2⟩, ⟨a3, a4⟩, a5, a6, a7⟩ := h x hx
  have hq := hok.q _ (getD_mem (l := qs) (i := x.f1.toNat) (z := P.z45) (by omega))
  obtain ⟨_, _, _, _, _, _, _, q8, q9⟩ := hq
  obtain ⟨t, ht⟩ : ∃ t : Nat, x.f0 = t := ⟨x.f0.toNat, by omega⟩
  obtain ⟨k, hk⟩ : ∃ k : Nat, (qs.getD x.f1.toNat P.z45).f3 = k := ⟨(qs.getD x.f1.toNat P.z45).f3.toNat, by omega⟩
  unfold chF thF
  rw [sumN_sub, hk, ht]
  have e1 := sumN_pick (t + k) x.f2 ((qs.getD x.f1.toNat P.z45).f1 = r) (m + 1)
  have e2 := sumN_pick t x.f2 ((qs.getD x.f1.toNat P.z45).f0 = r) (m + 1)
  push_cast at e1
  rw [e1, e2]
  congr 1
  · by_cases z : (qs.getD x.f1.toNat P.z45).f1 = r ∧ t + k < m + 1
    · rw [if_pos z, if_pos ⟨z.1, by omega⟩]
    · rw [if_neg z, if_neg (fun y => z ⟨y.1, by omega⟩)]
  · by_cases z : (qs.getD x.f1.toNat P.z45).f0 = r ∧ t < m + 1
    · rw [if_pos z, if_pos ⟨z.1, by omega⟩]
    · rw [if_neg z, if_neg (fun y => z ⟨y.1, by omega⟩)]
/-- A move's changes. -/
theorem ch_out {qs : List S45} {q : S45} {l : List S35} {i T R t0 a0 : Nat} {x : S35} (hx : l[i]? = some x) (hq : qs.getD x.f1.toNat P.z45 = q) (h1 : (t0 : Int) = x.f0) (h2 : (a0 : Int) = q.f0) (h3 : q.f1 = -1) :
    mat (setF (chM qs (l.take i)) t0 a0 (chM qs (l.take i) t0 a0 - x.f2)) T R = mat (chM qs (l.take (i + 1))) T R := by
  refine mat_congr fun m r _ _ => ?_
  show setF _ _ _ _ _ _ = sumM _ _
  rw [sumM_step hx]
  show _ = chM qs (l.take i) m r + _
  unfold chF
  rw [hq]
  have d2 : (q.f0 = (r : Int) ∧ x.f0 = (m : Int)) ↔ (m = t0 ∧ r = a0) := by omega
  rw [if_neg (show ¬ (q.f1 = (r : Int) ∧ x.f0 + q.f3 = (m : Int)) by omega)]
  unfold setF
  by_cases e : m = t0 ∧ r = a0
  · rw [if_pos e, if_pos (d2.mpr e)]
    obtain ⟨rfl, rfl⟩ := e
    omega
  · rw [if_neg e, if_neg (fun z => e (d2.mp z))]
    omega
theorem ch_in {qs : List S45} {q : S45} {l : List S35} {i T R t0 a0 t1 b0 : Nat} {x : S35} (hx : l[i]? = some x) (hq : qs.getD x.f1.toNat P.z45 = q) (h1 : (t0 : Int) = x.f0) (h2 : (a0 : Int) = q.f0) (h3 : (b0 : Int) = q.f1) (h4 : (t1 : Int) = x.f0 + q.f3) :
    mat (setF (setF (chM qs (l.take i)) t0 a0 (chM qs (l.take i) t0 a0 - x.f2)) t1 b0 (setF (chM qs (l.take i)) t0 a0 (chM qs (l.take i) t0 a0 - x.f2) t1 b0 + x.f2)) T R = mat (chM qs (l.take (i + 1))) T R := by
  refine mat_congr fun m r _ _ => ?_
  show setF (setF _ _ _ _) _ _ _ _ _ = sumM _ _
  rw [sumM_step hx]
  show _ = chM qs (l.take i) m r + _
  have k0 : chM qs (l.take i) m r = sumM (chF qs r m) (l.take i) := rfl
  unfold chF
  rw [hq]
  have d1 : (q.f1 = (r : Int) ∧ x.f0 + q.f3 = (m : Int)) ↔ (m = t1 ∧ r = b0) := by omega
  have d2 : (q.f0 = (r : Int) ∧ x.f0 = (m : Int)) ↔ (m = t0 ∧ r = a0) := by omega
  unfold setF
  by_cases e : m = t1 ∧ r = b0
  · rw [if_pos e, if_pos (d1.mpr e)]
    obtain ⟨rfl, rfl⟩ := e
    by_cases e2 : m = t0 ∧ r = a0
    · rw [if_pos e2, if_pos (d2.mpr e2)]
      obtain ⟨rfl, rfl⟩ := e2
      omega
    · rw [if_neg e2, if_neg (fun z => e2 (d2.mp z))]
      omega
  · rw [if_neg e, if_neg (fun z => e (d1.mp z))]
    by_cases e2 : m = t0 ∧ r = a0
    · rw [if_pos e2, if_pos (d2.mpr e2)]
      obtain ⟨rfl, rfl⟩ := e2
      omega
    · rw [if_neg e2, if_neg (fun z => e2 (d2.mp z))]
      omega
theorem used_step {l : List S35} {i : Nat} {x : S35} (hx : l[i]? = some x) (y : S72) : E.updZ (fun y : S72 => usedM (l.take i) y.f0 y.f1) ⟨x.f1, x.f0⟩ (usedM (l.take i) x.f1 x.f0 + x.f2) y = usedM (l.take (i + 1)) y.f0 y.f1 := by
  show _ = sumM _ _
  rw [sumM_step hx]
  unfold E.updZ
  obtain ⟨a, b⟩ := y
  simp only [usedF]
  by_cases e : (⟨a, b⟩ : S72) = ⟨x.f1, x.f0⟩
  · rw [if_pos e]
    injection e with e1 e2
    rw [if_pos ⟨e2.symm, e1.symm⟩, e1, e2]
    rfl
  · rw [if_neg e, if_neg (fun z => e (by rw [z.1, z.2]))]
    show usedM _ _ _ = _
    unfold usedM
    omega
set_option maxRecDepth 100000 in
set_option maxHeartbeats 8000000 in

theorem goneP_calls (ps : List Int) (qs : List S45) (A B C : Option Addr) (c d k : Nat) (m0 : Int) (l : List S35) (w : World) (hP : Kd.C kI w A ps.length ps) (hQ : Kd.C k45 w B qs.length qs) (hX : Kd.C k35 w C l.length l) (hn1 : ps.length ≤ 1000000) (hn2 : qs.length ≤ 1000000) (hn : l.length ≤ 1000000) :
    Calls Try.prog 16 #[hv ps qs A B c d, .int .i64 m0, .slice C l.length k] w fun e w' => ∃ N E, e = .returned (.tuple #[.int .i64 N, .int .i64 E]) ∧ GoneR ps qs m0 l N E ∧ Below w.heap.size w w' := by
  have hu3 := Try.underlying3
  have hu22 := Try.underlying22
  have hu23 := Try.underlying23
  have hu25 := Try.underlying25
  have hu26 := Try.underlying26
  have hu35 := Try.underlying35
  have hu45 := Try.underlying45
  have hu68 := Try.underlying68
  have hu69 := Try.underlying69
  have hu72 := Try.underlying72
  obtain ⟨z3, o3⟩ := info_some info3s (by decide)
  obtain ⟨z22, o22⟩ := info_some info22s (by decide)
  obtain ⟨z23, o23⟩ := info_some info23s (by decide)
  obtain ⟨z25, o25⟩ := info_some info25s (by decide)
  obtain ⟨z35, o35⟩ := info_some info35s (by decide)
  obtain ⟨z45, o45⟩ := info_some info45s (by decide)
  obtain ⟨z72, o72⟩ := info_some info72s (by decide)
  refine E.enter (N := 149) Try.func16 rfl Try.ntmps16 (args := [hv ps qs A B c d, .int .i64 m0, .slice C l.length k]) (by simp) ?_
  have L := Below.refl w.heap.size w
  refine E.CG.seq ?_
  refine E.CG.list ?_
  refine E.GL.st rfl rfl rfl (E.ST.box rfl rfl fun g3 w3 e3 b3 l3 => ?_)
  have h3_L : w.heap.size ≤ g3 := by rw [e3]; exact L.size
  replace L := below_step L l3
  refine E.GL.run rfl rfl rfl (E.Runs.assign rfl rfl) ?_
  refine E.GL.run rfl rfl rfl (E.Runs.assign rfl rfl) ?_
  refine E.GL.done ?_
  refine E.QG.code ?_
  refine E.CG.seq ?_
  refine E.CG.seq ?_
  refine E.CG.list ?_
  refine E.GL.run rfl rfl rfl (E.Runs.loads (cs := [.slice A ps.length c, .slice B qs.length d]) rfl rfl hu25 rfl info25s (blk_cells b3)) ?_
  refine E.GL.run rfl rfl rfl (E.Runs.move rfl rfl) ?_
  refine E.GL.st rfl rfl rfl (E.ST.call rfl ent45 (E.evc rfl (E.evc rfl E.evn)) ((chk45 ps qs A B c d _ (Kd.C_below hP L) (Kd.C_below hQ L) hn1 hn2 m0).mono ?_))
  rintro e w24 ⟨rfl, l24⟩
  refine ⟨_, rfl, ?_⟩
  replace b3 := blk_below b3 l24
  replace L := below_step L l24
  refine E.GL.run rfl rfl rfl (E.Runs.assign rfl rfl) ?_
  refine E.GL.done ?_
  refine E.QG.code ?_
  refine E.CG.seq ?_
  refine E.CG.list ?_
  refine E.GL.run rfl rfl rfl (E.Runs.move rfl rfl) ?_
  refine E.GL.cmpn rfl rfl rfl (fun _ h => (E.Runs.neq rfl rfl rfl h)) (fun h26 => ?_) (fun h26 => ?_)
  · refine E.GL.done ?_
    refine E.QG.code ?_
    refine E.CG.cond_t rfl ?_
    refine E.CG.seq ?_
    refine E.CG.list ?_
    refine E.GL.run rfl rfl rfl (E.Runs.move rfl rfl) ?_
    refine E.GL.run rfl rfl rfl (E.Runs.assign rfl rfl) ?_
    refine E.GL.run rfl rfl rfl (E.Runs.assign rfl rfl) ?_
    refine E.GL.done ?_
    refine E.QG.code ?_
    refine E.CG.ret ?_
    refine E.QG.pass_ret ?_
    exact E.QG.result2 rfl rfl rfl ⟨_, _, rfl, ⟨fun _ => ⟨rfl, rfl⟩, fun k => absurd k h26⟩, L⟩
  · have hE := h26
    obtain ⟨hH, hm0, hm1⟩ := chkE_ok.mp h26
    obtain ⟨T, rfl⟩ : ∃ T : Nat, m0 = T := ⟨m0.toNat, by omega⟩
    have hT : T ≤ 60 := by omega
    have hr6 := hH.r6
    have hq12 := hH.q12
    refine E.GL.done ?_
    refine E.QG.code ?_
    refine E.CG.cond_f rfl ?_
    refine E.CG.skip ?_
    refine E.QG.code ?_
    refine E.CG.seq ?_
    refine E.CG.list ?_
    refine E.GL.run rfl rfl rfl (E.Runs.move rfl rfl) ?_
    refine E.GL.run rfl rfl rfl (E.Runs.add rfl rfl rfl (IntWalk.i64_in _ (by omega))) ?_
    refine E.GL.st rfl rfl rfl (E.ST.makeB (m := T + 1) rfl (by push_cast; rfl) (by push_cast; rfl) hu68 info22 rfl (by omega) fun gO w30 e30 bO l30 => ?_)
    have hgO : w.heap.size ≤ gO := by rw [e30]; exact L.size
    replace b3 := blk_below b3 l30
    replace L := below_step L l30
    refine E.GL.run rfl rfl rfl (E.Runs.assign rfl rfl) ?_
    refine E.GL.done ?_
    refine E.QG.code ?_
    refine E.CG.seq ?_
    refine E.CG.seq ?_
    refine E.CG.list ?_
    refine E.GL.run rfl rfl rfl (E.Runs.move rfl rfl) ?_
    refine E.GL.run rfl rfl rfl (E.Runs.len rfl rfl hu68) ?_
    refine E.GL.run rfl rfl rfl (E.Runs.move rfl rfl) ?_
    refine E.GL.done ?_
    refine E.QG.code ?_
    refine E.CG.block ?_
    have hM : ∃ vs, Gz w _ g3 gO [.slice A ps.length c, .slice B qs.length d] (mkR 0 T ps.length) vs ∧ ∀ j, 0 ≤ j → j < T + 1 → vs[j]? = some (.slice none 0 0) := ⟨_, ⟨b3, by rw [mkR_first]; exact Rows.fresh _ _ _ hgO bO, L, L.size⟩, fun j _ hj => by rw [List.getElem?_replicate, if_pos hj]⟩
    have s6_b3 := b3
    have s6_L := L
    refine E.CG.loop (fun (i : Nat) => [(1, .int .i64 (T : Int)), (2, .slice C l.length k), (3, .pointer (some ⟨g3, 0, none⟩)), (9, .slice (some ⟨gO, 0, none⟩) (T + 1) (T + 1)), (32, .int .i64 ((T + 1 : Nat) : Int)), (33, .int .i64 i)]) (fun i w' => i ≤ T + 1 ∧ ∃ vs, Gz w w' g3 gO [.slice A ps.length c, .slice B qs.length d] (mkR i T ps.length) vs ∧ ∀ j, i ≤ j → j < T + 1 → vs[j]? = some (.slice none 0 0)) (fun i => T + 1 - i) 0 (E.subc rfl (E.subc rfl (E.subc rfl (E.subc rfl (E.subc rfl (E.subc rfl E.subn)))))) ⟨Nat.zero_le _, hM⟩ ?_
    rintro i w6 ⟨hi, vs, hM, hnil⟩
    refine E.CG.seq ?_
    refine E.CG.list ?_
    refine E.GL.cmp rfl rfl rfl (fun _ h => (E.Runs.lss rfl rfl rfl h)) (fun h34 => ?_) (fun h34 => ?_)
    · refine E.GL.done ?_
      refine E.QG.code ?_
      refine E.CG.seq ?_
      refine E.CG.cond_t rfl ?_
      refine E.CG.skip ?_
      refine E.QG.code ?_
      refine E.CG.seq ?_
      refine E.CG.block ?_
      refine E.CG.seq ?_
      refine E.CG.list ?_
      refine E.GL.run rfl rfl rfl (E.Runs.move rfl rfl) ?_
      refine E.GL.run rfl rfl rfl (E.Runs.assign rfl rfl) ?_
      refine E.GL.done ?_
      refine E.QG.code ?_
      refine E.CG.list ?_
      refine E.GL.run rfl rfl rfl (E.Runs.move rfl rfl) ?_
      refine E.GL.run rfl rfl rfl (E.Runs.move rfl rfl) ?_
      refine E.GL.run rfl rfl rfl (E.Runs.fieldAddr rfl rfl hu25 rfl (by assumption) rfl) ?_
      refine E.GL.run rfl rfl rfl (E.Runs.load1 rfl rfl hu22 rfl (E.blkc hM.b3 rfl)) ?_
      refine E.GL.run rfl rfl rfl (E.Runs.len rfl rfl hu22) ?_
      refine E.GL.st rfl rfl rfl (E.ST.makeR kI w.heap.size 3 rfl rfl rfl rfl hu22 (.int .i64 0) 8 info3 rfl (by decide) (by decide) 0 rfl (by omega) hM.bel hM.size fun v41 w41 r41 k41 l41 o41 => ?_)
      refine E.GL.run rfl rfl rfl (E.Runs.indexAddrA (i := i) rfl rfl rfl hu68 z22 o22 (by omega) rfl (show _ = (⟨gO, i * 1, none⟩ : Addr) from by rw [Go.Addr.add_mid, Nat.zero_add])) ?_
      obtain ⟨hc87, hf87, hM87⟩ := hM.made (mkR_at (by omega)) l41 r41 (hnil i (Nat.le_refl _) (by omega)) o41
      obtain ⟨A41, c41, hv41⟩ := Kd.R_slice r41
      rw [List.length_replicate] at hv41
      subst hv41
      refine E.GL.sn rfl rfl (E.ST.storeC rfl z22 o22 rfl rfl (.inr ⟨_, _, _, rfl⟩) hc87 hf87 ?_)
      obtain ⟨wS, hwS⟩ : ∃ z, z = w41.setCell ⟨gO, i * 1, none⟩ (.slice A41 ps.length c41) := ⟨_, rfl⟩
      rw [← hwS] at hM87 ⊢
      rw [mkR_set (by omega)] at hM87
      clear hM hc87 hf87 k41 l41
      have hM := hM87
      clear hM87
      refine E.GL.done ?_
      refine E.QG.block_normal ?_
      refine E.QG.code ?_
      refine E.CG.list ?_
      refine E.GL.run rfl rfl rfl (E.Runs.add rfl rfl rfl (IntWalk.i64_in _ (by omega))) ?_
      refine E.GL.run rfl rfl rfl (E.Runs.move rfl rfl) ?_
      refine E.GL.done ?_
      exact E.QG.round (i + 1) (E.subc rfl (E.subc rfl (E.subc rfl (E.subc rfl (E.subc rfl (E.subc rfl E.subn)))))) ⟨by omega, _, hM, fun j h1 h2 => by rw [List.getElem?_set_ne (by omega)]; exact hnil j (by omega) h2⟩ (by omega)
    · refine E.GL.done ?_
      refine E.QG.code ?_
      refine E.CG.seq ?_
      refine E.CG.cond_f rfl ?_
      refine E.CG.exit ?_
      refine E.QG.pass_exit ?_
      refine E.QG.pass_exit ?_
      refine E.QG.block_here ?_
      refine E.QG.code ?_
      refine E.CG.seq ?_
      refine E.CG.list ?_
      refine E.GL.st rfl rfl rfl (E.ST.makeMap ek72 evI rfl fun gM w44 eM m44 l44 => ?_)
      rw [mkR_last (by omega)] at hM
      have hM44 : Gs w w44 g3 gO gM [.slice A ps.length c, .slice B qs.length d] (mat (fun _ _ => 0) T ps.length) vs (fun _ => 0) := ⟨blk_below hM.b3 l44, hM.rows.below l44, ⟨_, m44, fun x => rfl⟩, by rw [eM]; exact hM.size, below_step' hM.bel hM.size l44, Nat.le_trans hM.size l44.size⟩
      clear hM
      have hM := hM44
      clear hM44 m44
      refine E.GL.run rfl rfl rfl (E.Runs.assign rfl rfl) ?_
      refine E.GL.done ?_
      refine E.QG.code ?_
      refine E.CG.seq ?_
      refine E.CG.list ?_
      refine E.GL.run rfl rfl rfl (E.Runs.assign rfl rfl) ?_
      refine E.GL.done ?_
      refine E.QG.code ?_
      refine E.CG.seq ?_
      refine E.CG.seq ?_
      refine E.CG.list ?_
      refine E.GL.run rfl rfl rfl (E.Runs.move rfl rfl) ?_
      refine E.GL.run rfl rfl rfl (E.Runs.len rfl rfl hu26) ?_
      refine E.GL.run rfl rfl rfl (E.Runs.move rfl rfl) ?_
      refine E.GL.done ?_
      refine E.QG.code ?_
      refine E.CG.block ?_
      refine E.CG.loop (fun (i : Nat) => [(1, .int .i64 (T : Int)), (2, .slice C l.length k), (3, .pointer (some ⟨g3, 0, none⟩)), (9, .slice (some ⟨gO, 0, none⟩) (T + 1) (T + 1)), (11, .map (some gM)), (12, .int .i64 (outM qs (l.take i))), (45, .slice C l.length k), (46, .int .i64 l.length), (47, .int .i64 i)]) (fun i w' => i ≤ l.length ∧ Gs w w' g3 gO gM [.slice A ps.length c, .slice B qs.length d] (mat (chM qs (l.take i)) T ps.length) vs (fun y : S72 => usedM (l.take i) y.f0 y.f1) ∧ ∀ k, k < i → ∀ x, l[k]? = some x → Mv1 qs T l k x) (fun i => l.length - i) 0 (E.subc rfl (E.subc rfl (E.subc rfl (E.subc rfl (E.subc rfl (E.subc rfl (E.subc rfl (E.subc rfl (E.subc rfl E.subn))))))))) ⟨Nat.zero_le _, hM, fun k hk => by omega⟩ ?_
      rintro i w13 ⟨hi, hM, hmv⟩
      refine E.CG.seq ?_
      refine E.CG.list ?_
      refine E.GL.cmp rfl rfl rfl (fun _ h => (E.Runs.lss rfl rfl rfl h)) (fun h48 => ?_) (fun h48 => ?_)
      · obtain ⟨x, hx⟩ : ∃ x, l[i]? = some x := ⟨_, List.getElem?_eq_getElem (by omega)⟩
        obtain ⟨ad, eA, X⟩ := move_at hX hx
        refine E.GL.done ?_
        refine E.QG.code ?_
        refine E.CG.seq ?_
        refine E.CG.cond_t rfl ?_
        refine E.CG.skip ?_
        refine E.QG.code ?_
        refine E.CG.seq ?_
        refine E.CG.block ?_
        refine E.CG.seq ?_
        refine E.CG.list ?_
        refine E.GL.run rfl rfl rfl (E.Runs.indexAddrA rfl rfl rfl hu26 z35 o35 (show (i : Int) < l.length by omega) eA rfl) ?_
        refine E.GL.run rfl rfl rfl (E.Runs.loads (cs := [.int .i64 x.f0, .int .i64 x.f1, .int .i64 x.f2]) rfl rfl hu35 rfl info35s (fun j v hv => pw_cell_below hM.bel (X j v hv))) ?_
        have hsz14 := hM.size
        refine E.GL.st rfl rfl rfl (E.ST.alloc rfl info35z fun g14 w14 e14 b14 l14 => ?_)
        replace hM := hM.below l14
        have hg14 : w.heap.size ≤ g14 := by rw [e14]; exact hsz14
        refine E.GL.store_whole rfl rfl rfl rfl rfl b14 rfl info35s (three_one _ _ _) fun wS14_3 c14 lS14_3 => ?_
        replace hM := hM.grown lS14_3 (by first | exact ⟨⟨_, _, b14, by decide, by decide, by decide⟩, hg14⟩ | exact ⟨⟨_, _, b15, by decide, by decide, by decide⟩, hg15⟩ | exact ⟨⟨_, _, b16, by decide, by decide, by decide⟩, hg16⟩ | fail)
        replace b14 := c14
        clear c14
        refine E.GL.done ?_
        refine E.QG.code ?_
        refine E.CG.seq ?_
        refine E.CG.seq ?_
        refine E.CG.list ?_
        refine E.GL.run rfl rfl rfl (E.Runs.loads (cs := [.slice A ps.length c, .slice B qs.length d]) rfl rfl hu25 rfl info25s (blk_cells hM.b3)) ?_
        refine E.GL.run rfl rfl rfl (E.Runs.move rfl rfl) ?_
        refine E.GL.run rfl rfl rfl (E.Runs.loads (cs := [.int .i64 x.f0, .int .i64 x.f1, .int .i64 x.f2]) rfl rfl hu35 rfl info35s (blk_cells b14)) ?_
        by_cases h54 : IsMv qs T x
        · obtain ⟨⟨_, _⟩, ⟨_, _⟩, hv1, hv2, hv3⟩ := id h54
          obtain ⟨u, hu1⟩ : ∃ u : Nat, (u : Int) = x.f1 := ⟨x.f1.toNat, by omega⟩
          have hul : u < qs.length := by omega
          obtain ⟨q, hq⟩ : ∃ q, q = qs.getD u P.z45 := ⟨_, rfl⟩
          have hqu : qs.getD x.f1.toNat P.z45 = q := by rw [hq, ← hu1, Int.toNat_natCast]
          rw [hqu] at hv2 hv3
          obtain ⟨aQ, eQ, cQ⟩ := pass_at hQ (show qs[u]? = some q by rw [hq]; exact getD_some hul _)
          obtain ⟨hq1, hq2, hq3, hq4, hq5, hq6, hq7, hq8, hq9⟩ := hH.q q (by rw [hq]; exact getD_mem hul)
          obtain ⟨t0, ht0⟩ : ∃ u : Nat, (u : Int) = x.f0 := ⟨x.f0.toNat, by omega⟩
          obtain ⟨a0, ha0⟩ : ∃ u : Nat, (u : Int) = q.f0 := ⟨q.f0.toNat, by omega⟩
          have hmo : MvOk qs T x := ⟨⟨by omega, by omega⟩, ⟨by omega, by omega⟩, by omega, by omega, by rw [hqu]; omega⟩
          have hub := usedM_b (fun k hk x hx => (hmv k hk x hx).1) x.f1 x.f0 (n := i)
          have hcb := fun m r => chM_b (qs := qs) (T := T) (l := l) (n := i) (fun k hk x hx => (hmv k hk x hx).1) (by omega) m r
          have hst := sumM_step (h := outF qs) hx
          have hob := outM_b (mvIn_of (qs := qs) (l := l.take i) (n := i) (fun k hk x hx => by rw [List.getElem?_take, if_pos hk] at hx; exact (hmv k hk x hx).1) (by rw [List.length_take]; omega))
          have hlt : (l.take i).length ≤ l.length := by rw [List.length_take]; omega
          refine E.GL.st rfl rfl rfl (E.ST.call rfl ent46 (E.evc rfl (E.evc rfl (E.evc rfl E.evn))) ((isMove_calls ps qs A B c d T x true hH (iff_of_true rfl h54) _ (Kd.C_below hQ hM.bel) hT).mono ?_))
          rintro e w54 ⟨rfl, l54⟩
          refine ⟨_, rfl, ?_⟩
          replace b14 := blk_below b14 l54
          replace hM := hM.below l54
          refine E.GL.run rfl rfl rfl (E.Runs.not rfl rfl) ?_
          refine E.GL.done ?_
          refine E.QG.code ?_
          refine E.CG.cond_f rfl ?_
          refine E.CG.skip ?_
          refine E.QG.code ?_
          refine E.CG.seq ?_
          refine E.CG.list ?_
          refine E.GL.run rfl rfl rfl (E.Runs.fieldAddr rfl rfl hu25 rfl (by assumption) rfl) ?_
          refine E.GL.run rfl rfl rfl (E.Runs.load1 rfl rfl hu23 rfl (E.blkc hM.b3 rfl)) ?_
          refine E.GL.run rfl rfl rfl (E.Runs.fieldAddr rfl rfl hu35 rfl (by assumption) rfl) ?_
          refine E.GL.run rfl rfl rfl (E.Runs.load rfl rfl hu3 (by first | assumption | exact E.blkc (by assumption) rfl)) ?_
          refine E.GL.run rfl rfl rfl (E.Runs.indexAddrA (i := u) rfl rfl (by rw [hu1]; rfl) hu23 z45 o45 (show (u : Int) < qs.length by omega) eQ rfl) ?_
          refine E.GL.run rfl rfl rfl (E.Runs.loads (cs := [.int .i64 q.f0, .int .i64 q.f1, .int .i64 q.f2, .int .i64 q.f3]) rfl rfl hu45 rfl info45s (fun j v hv => pw_cell_below hM.bel (cQ j v hv))) ?_
          have hsz15 := hM.size
          refine E.GL.st rfl rfl rfl (E.ST.alloc rfl info45z fun g15 w15 e15 b15 l15 => ?_)
          have n15_b14 : g14 ≠ g15 := by have := blk_lt b14; omega
          replace b14 := blk_below b14 l15
          replace hM := hM.below l15
          have hg15 : w.heap.size ≤ g15 := by rw [e15]; exact hsz15
          refine E.GL.store_whole rfl rfl rfl rfl rfl b15 rfl info45s (four_one _ _ _ _) fun wS17_7 c15 lS17_7 => ?_
          replace b14 := blk_grown b14 lS17_7 (E.nes (by first | assumption | exact Ne.symm (by assumption)))
          replace hM := hM.grown lS17_7 (by first | exact ⟨⟨_, _, b14, by decide, by decide, by decide⟩, hg14⟩ | exact ⟨⟨_, _, b15, by decide, by decide, by decide⟩, hg15⟩ | exact ⟨⟨_, _, b16, by decide, by decide, by decide⟩, hg16⟩ | fail)
          replace b15 := c15
          clear c15
          refine E.GL.done ?_
          refine E.QG.code ?_
          refine E.CG.seq ?_
          refine E.CG.list ?_
          refine E.GL.run rfl rfl rfl (E.Runs.fieldAddr rfl rfl hu35 rfl (by assumption) rfl) ?_
          refine E.GL.run rfl rfl rfl (E.Runs.load rfl rfl hu3 (by first | assumption | exact E.blkc (by assumption) rfl)) ?_
          refine E.GL.run rfl rfl rfl (E.Runs.fieldAddr rfl rfl hu35 rfl (by assumption) rfl) ?_
          refine E.GL.run rfl rfl rfl (E.Runs.load rfl rfl hu3 (by first | assumption | exact E.blkc (by assumption) rfl)) ?_
          refine E.GL.run rfl rfl rfl (E.Runs.build rfl (E.epc rfl (E.epc rfl E.epn)) (build72b _ _)) ?_
          have hsz16 := hM.size
          refine E.GL.st rfl rfl rfl (E.ST.alloc rfl info72z fun g16 w16 e16 b16 l16 => ?_)
          have n16_b14 : g14 ≠ g16 := by have := blk_lt b14; omega
          have n16_b15 : g15 ≠ g16 := by have := blk_lt b15; omega
          replace b14 := blk_below b14 l16
          replace b15 := blk_below b15 l16
          replace hM := hM.below l16
          have hg16 : w.heap.size ≤ g16 := by rw [e16]; exact hsz16
          refine E.GL.store_whole rfl rfl rfl rfl rfl b16 rfl info72s (two_one _ _) fun wS18_6 c16 lS18_6 => ?_
          replace b14 := blk_grown b14 lS18_6 (E.nes (by first | assumption | exact Ne.symm (by assumption)))
          replace b15 := blk_grown b15 lS18_6 (E.nes (by first | assumption | exact Ne.symm (by assumption)))
          replace hM := hM.grown lS18_6 (by first | exact ⟨⟨_, _, b14, by decide, by decide, by decide⟩, hg14⟩ | exact ⟨⟨_, _, b15, by decide, by decide, by decide⟩, hg15⟩ | exact ⟨⟨_, _, b16, by decide, by decide, by decide⟩, hg16⟩ | fail)
          replace b16 := c16
          clear c16
          refine E.GL.done ?_
          refine E.QG.code ?_
          refine E.CG.seq ?_
          refine E.CG.seq ?_
          refine E.CG.heldJ 8 (fun v W => v.grownBy W (some gM) ∧ (E.Mz ek72 evI 0 v gM (fun y : S72 => usedM (l.take i) y.f0 y.f1) → E.Mz ek72 evI 0 W gM (fun y : S72 => usedM (l.take i) y.f0 y.f1))) (fun _ _ => True) (by kernel_rfl) (by kernel_rfl) (fun v => ⟨World.grownBy.refl _ _, fun h => h⟩) fun v19 lD => ?_
          replace b14 := blk_below b14 lD
          replace b15 := blk_below b15 lD
          replace b16 := blk_below b16 lD
          replace hM := hM.below lD
          have lD19 := lD
          clear lD
          have n14M := map_ne hM.mp b14
          have n15M := map_ne hM.mp b15
          have n16M := map_ne hM.mp b16
          have s_b14 := b14
          have s_b15 := b15
          have s_b16 := b16
          have s_hM := hM
          have hh : v19.grownBy v19 (some gM) := World.grownBy.refl _ _
          refine E.GJ.take1 (i := 0) rfl (by kernel_rfl) (by kernel_rfl) (by kernel_rfl) (by kernel_rfl) rfl (by kernel_rfl) (by kernel_rfl) (by intro c a d v w h; cases d <;> exact h) rfl rfl rfl (fun w' hS => (E.Runs.move rfl rfl)) ?_
          refine E.GJ.take1 (i := 1) rfl (by kernel_rfl) (by kernel_rfl) (by kernel_rfl) (by kernel_rfl) rfl (by kernel_rfl) (by kernel_rfl) (by intro c a d v w h; cases d <;> exact h) rfl rfl rfl (fun w' hS => (E.Runs.loads (cs := [.int .i64 x.f1, .int .i64 x.f0]) rfl rfl hu72 rfl info72s (blk_cells (blk_grown b16 hS.1 (E.nes n16M))))) ?_
          refine E.GJ.take1 (i := 2) rfl (by kernel_rfl) (by kernel_rfl) (by kernel_rfl) (by kernel_rfl) rfl (by kernel_rfl) (by kernel_rfl) (by intro c a d v w h; cases d <;> exact h) rfl rfl rfl (fun w' hS => (lookU (v := usedM (l.take i) x.f1 x.f0) rfl rfl rfl (hS.2 hM.mp) rfl)) ?_
          refine E.GJ.take1 (i := 3) rfl (by kernel_rfl) (by kernel_rfl) (by kernel_rfl) (by kernel_rfl) rfl (by kernel_rfl) (by kernel_rfl) (by intro c a d v w h; cases d <;> exact h) rfl rfl rfl (fun w' hS => (E.Runs.fieldAddr rfl rfl hu35 rfl (by assumption) rfl)) ?_
          refine E.GJ.take1 (i := 4) rfl (by kernel_rfl) (by kernel_rfl) (by kernel_rfl) (by kernel_rfl) rfl (by kernel_rfl) (by kernel_rfl) (by intro c a d v w h; cases d <;> exact h) rfl rfl rfl (fun w' hS => (E.Runs.load rfl rfl hu3 (E.keeps hS.1 (E.blkc b14 rfl) (E.nes n14M)))) ?_
          refine E.GJ.take1 (i := 5) rfl (by kernel_rfl) (by kernel_rfl) (by kernel_rfl) (by kernel_rfl) rfl (by kernel_rfl) (by kernel_rfl) (by intro c a d v w h; cases d <;> exact h) rfl rfl rfl (fun w' hS => (E.Runs.add rfl rfl rfl (IntWalk.i64_in _ (by omega)))) ?_
          refine E.GJ.one (i := 6) (by kernel_rfl) (E.OJ.st rfl rfl rfl rfl (E.ST.mapEntry (z := (0 : Int)) (ev := evI) rfl rfl k72T ⟨x.f1, x.f0⟩ rfl hu69 zero3I hM.mp fun w73 s73 hS73 l73 => ⟨(E.SJ.before (by kernel_rfl)).mpr ⟨l73, fun _ => hS73.mz⟩, ?_⟩))
          replace b14 := blk_grown b14 l73 (E.nes n14M)
          replace b15 := blk_grown b15 l73 (E.nes n15M)
          replace b16 := blk_grown b16 l73 (E.nes n16M)
          replace hM := hM.mapped l73 hS73.mz
          refine E.GJ.take1 (i := 7) rfl (by kernel_rfl) (by kernel_rfl) (by kernel_rfl) (by kernel_rfl) rfl (by kernel_rfl) (by kernel_rfl) (by intro c a d v w h; cases d <;> exact h) rfl rfl rfl (fun w' hS => (E.Runs.extract rfl rfl rfl)) ?_
          refine E.GJ.one (i := 8) (by kernel_rfl) (E.OJ.sn rfl rfl rfl (E.ST.entryStore (v := usedM (l.take i) x.f1 x.f0 + x.f2) rfl rfl rfl rfl k72T hS73 fun w19 hm19 l19 => ⟨(E.SJ.behind (by kernel_rfl)).mpr trivial, ?_⟩))
          replace b14 := blk_grown b14 l19 (E.nes n14M)
          replace b15 := blk_grown b15 l19 (E.nes n15M)
          replace b16 := blk_grown b16 l19 (E.nes n16M)
          replace hM := hM.mapped l19 (hm19.congr (used_step hx))
          clear hm19 l19 l73 hS73
          refine E.GJ.done (by kernel_rfl) ?_
          refine E.QG.code ?_
          refine E.CG.seq ?_
          refine E.CG.quietF (by kernel_rfl) rfl (by kernel_rfl) (by kernel_rfl) ?_
          refine E.GQ.run rfl rfl rfl (E.Runs.move rfl rfl) ?_
          refine E.GQ.run rfl rfl rfl (E.Runs.loads (cs := [.int .i64 x.f1, .int .i64 x.f0]) rfl rfl hu72 rfl info72s (blk_cells b16)) ?_
          refine E.GQ.run rfl rfl rfl (lookU (v := usedM (l.take (i + 1)) x.f1 x.f0) rfl rfl rfl hM.mp rfl) ?_
          refine E.GQ.run rfl rfl rfl (E.Runs.fieldAddr rfl rfl hu45 rfl (by assumption) rfl) ?_
          refine E.GQ.run rfl rfl rfl (E.Runs.load rfl rfl hu3 (by first | assumption | exact E.blkc (by assumption) rfl)) ?_
          refine E.GQ.cmp rfl rfl rfl (fun _ h => (E.Runs.gtr rfl rfl rfl h)) (fun h80 => ?_) (fun h80 => ?_)
          · refine E.GQ.doneB fun v20 lD => ?_
            replace b14 := blk_below b14 lD
            replace b15 := blk_below b15 lD
            replace b16 := blk_below b16 lD
            replace hM := hM.below lD
            have lD20 := lD
            clear lD
            refine E.QG.code ?_
            refine E.CG.cond_t rfl ?_
            refine E.CG.seq ?_
            refine E.CG.list ?_
            refine E.GL.run rfl rfl rfl (E.Runs.assign rfl rfl) ?_
            refine E.GL.run rfl rfl rfl (E.Runs.assign rfl rfl) ?_
            refine E.GL.done ?_
            refine E.QG.code ?_
            refine E.CG.ret ?_
            refine E.QG.pass_ret ?_
            refine E.QG.block_ret ?_
            refine E.QG.pass_ret ?_
            refine E.QG.pass_ret ?_
            refine E.QG.block_ret ?_
            refine E.QG.pass_ret ?_
            exact E.QG.result2 rfl rfl rfl ⟨_, _, rfl, ⟨fun k => absurd hE k, fun _ => ⟨fun k => by rw [Int.toNat_natCast] at k; exact absurd k (fun k => by have := (k.mv i x hx).2; rw [hqu] at this; omega), fun _ => ⟨rfl, rfl⟩⟩⟩, hM.bel⟩
          · refine E.GQ.doneB fun v20 lD => ?_
            replace b14 := blk_below b14 lD
            replace b15 := blk_below b15 lD
            replace b16 := blk_below b16 lD
            replace hM := hM.below lD
            have lD20 := lD
            clear lD
            refine E.QG.code ?_
            refine E.CG.cond_f rfl ?_
            refine E.CG.skip ?_
            refine E.QG.code ?_
            refine E.CG.seq ?_
            refine E.CG.heldJ 13 (fun v W => v.grownBy W (none)) (fun _ _ => True) (by kernel_rfl) (by kernel_rfl) (fun v => World.grownBy.refl _ _) fun v22 lD => ?_
            replace b14 := blk_below b14 lD
            replace b15 := blk_below b15 lD
            replace b16 := blk_below b16 lD
            replace hM := hM.below lD
            have lD22 := lD
            clear lD
            have hat : t0 ≤ T := by omega
            have har : a0 < ps.length := by omega
            obtain ⟨AE, cE1, gF, cE, eE, cF, fF, stF⟩ := hM.entry hat har
            have hcb0 := hcb t0 a0
            have s_b14 := b14
            have s_b15 := b15
            have s_b16 := b16
            have s_hM := hM
            refine E.GJ.take1 (i := 0) rfl (by kernel_rfl) (by kernel_rfl) (by kernel_rfl) (by kernel_rfl) rfl (by kernel_rfl) (by kernel_rfl) (by intro c a d v w h; cases d <;> exact h) rfl rfl rfl (fun w' hS => (E.Runs.move rfl rfl)) ?_
            refine E.GJ.take1 (i := 1) rfl (by kernel_rfl) (by kernel_rfl) (by kernel_rfl) (by kernel_rfl) rfl (by kernel_rfl) (by kernel_rfl) (by intro c a d v w h; cases d <;> exact h) rfl rfl rfl (fun w' hS => (E.Runs.fieldAddr rfl rfl hu35 rfl (by assumption) rfl)) ?_
            refine E.GJ.take1 (i := 2) rfl (by kernel_rfl) (by kernel_rfl) (by kernel_rfl) (by kernel_rfl) rfl (by kernel_rfl) (by kernel_rfl) (by intro c a d v w h; cases d <;> exact h) rfl rfl rfl (fun w' hS => (E.Runs.load rfl rfl hu3 (by first | exact E.keeps hS (E.blkc (by assumption) rfl) (by first | exact E.nen | exact E.nes (by assumption) | exact E.nes (Ne.symm (by assumption)))))) ?_
            refine E.GJ.take1 (i := 3) rfl (by kernel_rfl) (by kernel_rfl) (by kernel_rfl) (by kernel_rfl) rfl (by kernel_rfl) (by kernel_rfl) (by intro c a d v w h; cases d <;> exact h) rfl rfl rfl (fun w' hS => (E.Runs.indexAddrA (i := t0) rfl rfl (by rw [ht0]; rfl) hu68 z22 o22 (by omega) rfl (show _ = (⟨gO, t0 * 1, none⟩ : Addr) from by rw [Go.Addr.add_mid, Nat.zero_add]))) ?_
            refine E.GJ.take1 (i := 4) rfl (by kernel_rfl) (by kernel_rfl) (by kernel_rfl) (by kernel_rfl) rfl (by kernel_rfl) (by kernel_rfl) (by intro c a d v w h; cases d <;> exact h) rfl rfl rfl (fun w' hS => (E.Runs.load1 rfl rfl hu22 rfl (E.keeps hS cE E.nen))) ?_
            refine E.GJ.take1 (i := 5) rfl (by kernel_rfl) (by kernel_rfl) (by kernel_rfl) (by kernel_rfl) rfl (by kernel_rfl) (by kernel_rfl) (by intro c a d v w h; cases d <;> exact h) rfl rfl rfl (fun w' hS => (E.Runs.fieldAddr rfl rfl hu45 rfl (by assumption) rfl)) ?_
            refine E.GJ.take1 (i := 6) rfl (by kernel_rfl) (by kernel_rfl) (by kernel_rfl) (by kernel_rfl) rfl (by kernel_rfl) (by kernel_rfl) (by intro c a d v w h; cases d <;> exact h) rfl rfl rfl (fun w' hS => (E.Runs.load rfl rfl hu3 (by first | exact E.keeps hS (E.blkc (by assumption) rfl) (by first | exact E.nen | exact E.nes (by assumption) | exact E.nes (Ne.symm (by assumption)))))) ?_
            refine E.GJ.take1 (i := 7) rfl (by kernel_rfl) (by kernel_rfl) (by kernel_rfl) (by kernel_rfl) rfl (by kernel_rfl) (by kernel_rfl) (by intro c a d v w h; cases d <;> exact h) rfl rfl rfl (fun w' hS => (E.Runs.indexAddrA (i := a0) rfl rfl (by first | rfl | rw [ha0]; rfl) hu22 z3 o3 (by omega) eE (show _ = (⟨gF, a0 * 1, none⟩ : Addr) from by rw [Go.Addr.add_mid, Nat.zero_add]))) ?_
            refine E.GJ.take1 (i := 8) rfl (by kernel_rfl) (by kernel_rfl) (by kernel_rfl) (by kernel_rfl) rfl (by kernel_rfl) (by kernel_rfl) (by intro c a d v w h; cases d <;> exact h) rfl rfl rfl (fun w' hS => (E.Runs.load rfl rfl hu3 (E.keeps hS cF E.nen))) ?_
            refine E.GJ.take1 (i := 9) rfl (by kernel_rfl) (by kernel_rfl) (by kernel_rfl) (by kernel_rfl) rfl (by kernel_rfl) (by kernel_rfl) (by intro c a d v w h; cases d <;> exact h) rfl rfl rfl (fun w' hS => (E.Runs.fieldAddr rfl rfl hu35 rfl (by assumption) rfl)) ?_
            refine E.GJ.take1 (i := 10) rfl (by kernel_rfl) (by kernel_rfl) (by kernel_rfl) (by kernel_rfl) rfl (by kernel_rfl) (by kernel_rfl) (by intro c a d v w h; cases d <;> exact h) rfl rfl rfl (fun w' hS => (E.Runs.load rfl rfl hu3 (by first | exact E.keeps hS (E.blkc (by assumption) rfl) (by first | exact E.nen | exact E.nes (by assumption) | exact E.nes (Ne.symm (by assumption)))))) ?_
            refine E.GJ.take1 (i := 11) rfl (by kernel_rfl) (by kernel_rfl) (by kernel_rfl) (by kernel_rfl) rfl (by kernel_rfl) (by kernel_rfl) (by intro c a d v w h; cases d <;> exact h) rfl rfl rfl (fun w' hS => (E.Runs.sub rfl rfl rfl (IntWalk.i64_in _ (by omega)))) ?_
            refine E.GJ.take1 (i := 12) rfl (by kernel_rfl) (by kernel_rfl) (by kernel_rfl) (by kernel_rfl) rfl (by kernel_rfl) (by kernel_rfl) (by intro c a d v w h; cases d <;> exact h) rfl rfl rfl (fun w' hS => (E.Runs.indexAddrA (i := a0) rfl rfl (by first | rfl | rw [ha0]; rfl) hu22 z3 o3 (by omega) eE (show _ = (⟨gF, a0 * 1, none⟩ : Addr) from by rw [Go.Addr.add_mid, Nat.zero_add]))) ?_
            refine E.GJ.one (i := 13) (by kernel_rfl) (E.OJ.sn rfl rfl rfl (E.ST.storeN rfl z3 o3 rfl rfl cF fF ⟨(E.SJ.behind (by kernel_rfl)).mpr trivial, ?_⟩))
            obtain ⟨w22, hw22, hM22, C22⟩ := stF ((chM qs (l.take i)) t0 a0 - x.f2)
            rw [← hw22]
            clear hM stF
            have hM := hM22
            clear hM22
            replace b14 := C22 _ _ _ _ b14 (by decide) (by decide)
            replace b15 := C22 _ _ _ _ b15 (by decide) (by decide)
            replace b16 := C22 _ _ _ _ b16 (by decide) (by decide)
            refine E.GJ.done (by kernel_rfl) ?_
            refine E.QG.code ?_
            refine E.CG.seq ?_
            refine E.CG.list ?_
            refine E.GL.run rfl rfl rfl (E.Runs.fieldAddr rfl rfl hu45 rfl (by assumption) rfl) ?_
            refine E.GL.run rfl rfl rfl (E.Runs.load rfl rfl hu3 (by first | assumption | exact E.blkc (by assumption) rfl)) ?_
            refine E.GL.cmp rfl rfl rfl (fun _ h => (E.Runs.eql rfl rfl rfl h)) (fun h96 => ?_) (fun h96 => ?_)
            · have hof : outF qs x = x.f2 := by unfold outF; rw [hqu, if_pos h96]
              rw [ch_out hx hqu ht0 ha0 h96] at hM
              refine E.GL.done ?_
              refine E.QG.code ?_
              refine E.CG.cond_t rfl ?_
              refine E.CG.list ?_
              refine E.GL.run rfl rfl rfl (E.Runs.move rfl rfl) ?_
              refine E.GL.run rfl rfl rfl (E.Runs.fieldAddr rfl rfl hu35 rfl (by assumption) rfl) ?_
              refine E.GL.run rfl rfl rfl (E.Runs.load rfl rfl hu3 (by first | assumption | exact E.blkc (by assumption) rfl)) ?_
              refine E.GL.run rfl rfl rfl (E.Runs.add rfl rfl rfl (IntWalk.i64_in _ (by omega))) ?_
              refine E.GL.run rfl rfl rfl (E.Runs.assign rfl rfl) ?_
              refine E.GL.done ?_
              refine E.QG.block_normal ?_
              refine E.QG.code ?_
              refine E.CG.list ?_
              refine E.GL.run rfl rfl rfl (E.Runs.add rfl rfl rfl (IntWalk.i64_in _ (by omega))) ?_
              refine E.GL.run rfl rfl rfl (E.Runs.move rfl rfl) ?_
              refine E.GL.done ?_
              exact E.QG.round (i + 1) (E.subc rfl (E.subc rfl (E.subc rfl (E.subc rfl (E.subc rfl (E.subc (by unfold outM; rw [hst, hof]; first | rfl | (rw [Int.add_zero]; rfl) | fail) (E.subc rfl (E.subc rfl (E.subc rfl E.subn))))))))) ⟨by omega, (by first | exact hM | (rw [ch_in hx hqu ht0 ha0 hb0 ht1] at hM; exact hM) | fail), all_more2 hmv hx ⟨hmo, by rw [hqu]; omega⟩⟩ (by omega)
            · have hof : outF qs x = 0 := by unfold outF; rw [hqu, if_neg h96]
              refine E.GL.done ?_
              refine E.QG.code ?_
              refine E.CG.cond_f rfl ?_
              obtain ⟨b0, hb0⟩ : ∃ u : Nat, (u : Int) = q.f1 := ⟨q.f1.toNat, by omega⟩
              obtain ⟨t1, ht1⟩ : ∃ u : Nat, (u : Int) = x.f0 + q.f3 := ⟨(x.f0 + q.f3).toNat, by omega⟩
              refine E.CG.heldJ 16 (fun v W => v.grownBy W (none)) (fun _ _ => True) (by kernel_rfl) (by kernel_rfl) (fun v => World.grownBy.refl _ _) fun v25 lD => ?_
              replace b14 := blk_below b14 lD
              replace b15 := blk_below b15 lD
              replace b16 := blk_below b16 lD
              replace hM := hM.below lD
              have lD25 := lD
              clear lD
              have hat : t1 ≤ T := by omega
              have har : b0 < ps.length := by omega
              obtain ⟨AE, cE1, gF, cE, eE, cF, fF, stF⟩ := hM.entry hat har
              have hcb1 : -40000000 ≤ setF (chM qs (l.take i)) t0 a0 ((chM qs (l.take i)) t0 a0 - x.f2) t1 b0 ∧ setF (chM qs (l.take i)) t0 a0 ((chM qs (l.take i)) t0 a0 - x.f2) t1 b0 ≤ 40000000 := by
                unfold setF
                have k1 := hcb t0 a0
                have k2 := hcb t1 b0
                split <;> omega
              have s_b14 := b14
              have s_b15 := b15
              have s_b16 := b16
              have s_hM := hM
              refine E.GJ.take1 (i := 0) rfl (by kernel_rfl) (by kernel_rfl) (by kernel_rfl) (by kernel_rfl) rfl (by kernel_rfl) (by kernel_rfl) (by intro c a d v w h; cases d <;> exact h) rfl rfl rfl (fun w' hS => (E.Runs.move rfl rfl)) ?_
              refine E.GJ.take1 (i := 1) rfl (by kernel_rfl) (by kernel_rfl) (by kernel_rfl) (by kernel_rfl) rfl (by kernel_rfl) (by kernel_rfl) (by intro c a d v w h; cases d <;> exact h) rfl rfl rfl (fun w' hS => (E.Runs.fieldAddr rfl rfl hu35 rfl (by assumption) rfl)) ?_
              refine E.GJ.take1 (i := 2) rfl (by kernel_rfl) (by kernel_rfl) (by kernel_rfl) (by kernel_rfl) rfl (by kernel_rfl) (by kernel_rfl) (by intro c a d v w h; cases d <;> exact h) rfl rfl rfl (fun w' hS => (E.Runs.load rfl rfl hu3 (by first | exact E.keeps hS (E.blkc (by assumption) rfl) (by first | exact E.nen | exact E.nes (by assumption) | exact E.nes (Ne.symm (by assumption)))))) ?_
              refine E.GJ.take1 (i := 3) rfl (by kernel_rfl) (by kernel_rfl) (by kernel_rfl) (by kernel_rfl) rfl (by kernel_rfl) (by kernel_rfl) (by intro c a d v w h; cases d <;> exact h) rfl rfl rfl (fun w' hS => (E.Runs.fieldAddr rfl rfl hu45 rfl (by assumption) rfl)) ?_
              refine E.GJ.take1 (i := 4) rfl (by kernel_rfl) (by kernel_rfl) (by kernel_rfl) (by kernel_rfl) rfl (by kernel_rfl) (by kernel_rfl) (by intro c a d v w h; cases d <;> exact h) rfl rfl rfl (fun w' hS => (E.Runs.load rfl rfl hu3 (by first | exact E.keeps hS (E.blkc (by assumption) rfl) (by first | exact E.nen | exact E.nes (by assumption) | exact E.nes (Ne.symm (by assumption)))))) ?_
              refine E.GJ.take1 (i := 5) rfl (by kernel_rfl) (by kernel_rfl) (by kernel_rfl) (by kernel_rfl) rfl (by kernel_rfl) (by kernel_rfl) (by intro c a d v w h; cases d <;> exact h) rfl rfl rfl (fun w' hS => (E.Runs.add rfl rfl rfl (IntWalk.i64_in _ (by omega)))) ?_
              refine E.GJ.take1 (i := 6) rfl (by kernel_rfl) (by kernel_rfl) (by kernel_rfl) (by kernel_rfl) rfl (by kernel_rfl) (by kernel_rfl) (by intro c a d v w h; cases d <;> exact h) rfl rfl rfl (fun w' hS => (E.Runs.indexAddrA (i := t1) rfl rfl (by rw [ht1]; rfl) hu68 z22 o22 (by omega) rfl (show _ = (⟨gO, t1 * 1, none⟩ : Addr) from by rw [Go.Addr.add_mid, Nat.zero_add]))) ?_
              refine E.GJ.take1 (i := 7) rfl (by kernel_rfl) (by kernel_rfl) (by kernel_rfl) (by kernel_rfl) rfl (by kernel_rfl) (by kernel_rfl) (by intro c a d v w h; cases d <;> exact h) rfl rfl rfl (fun w' hS => (E.Runs.load1 rfl rfl hu22 rfl (E.keeps hS cE E.nen))) ?_
              refine E.GJ.take1 (i := 8) rfl (by kernel_rfl) (by kernel_rfl) (by kernel_rfl) (by kernel_rfl) rfl (by kernel_rfl) (by kernel_rfl) (by intro c a d v w h; cases d <;> exact h) rfl rfl rfl (fun w' hS => (E.Runs.fieldAddr rfl rfl hu45 rfl (by assumption) rfl)) ?_
              refine E.GJ.take1 (i := 9) rfl (by kernel_rfl) (by kernel_rfl) (by kernel_rfl) (by kernel_rfl) rfl (by kernel_rfl) (by kernel_rfl) (by intro c a d v w h; cases d <;> exact h) rfl rfl rfl (fun w' hS => (E.Runs.load rfl rfl hu3 (by first | exact E.keeps hS (E.blkc (by assumption) rfl) (by first | exact E.nen | exact E.nes (by assumption) | exact E.nes (Ne.symm (by assumption)))))) ?_
              refine E.GJ.take1 (i := 10) rfl (by kernel_rfl) (by kernel_rfl) (by kernel_rfl) (by kernel_rfl) rfl (by kernel_rfl) (by kernel_rfl) (by intro c a d v w h; cases d <;> exact h) rfl rfl rfl (fun w' hS => (E.Runs.indexAddrA (i := b0) rfl rfl (by first | rfl | rw [hb0]; rfl) hu22 z3 o3 (by omega) eE (show _ = (⟨gF, b0 * 1, none⟩ : Addr) from by rw [Go.Addr.add_mid, Nat.zero_add]))) ?_
              refine E.GJ.take1 (i := 11) rfl (by kernel_rfl) (by kernel_rfl) (by kernel_rfl) (by kernel_rfl) rfl (by kernel_rfl) (by kernel_rfl) (by intro c a d v w h; cases d <;> exact h) rfl rfl rfl (fun w' hS => (E.Runs.load rfl rfl hu3 (E.keeps hS cF E.nen))) ?_
              refine E.GJ.take1 (i := 12) rfl (by kernel_rfl) (by kernel_rfl) (by kernel_rfl) (by kernel_rfl) rfl (by kernel_rfl) (by kernel_rfl) (by intro c a d v w h; cases d <;> exact h) rfl rfl rfl (fun w' hS => (E.Runs.fieldAddr rfl rfl hu35 rfl (by assumption) rfl)) ?_
              refine E.GJ.take1 (i := 13) rfl (by kernel_rfl) (by kernel_rfl) (by kernel_rfl) (by kernel_rfl) rfl (by kernel_rfl) (by kernel_rfl) (by intro c a d v w h; cases d <;> exact h) rfl rfl rfl (fun w' hS => (E.Runs.load rfl rfl hu3 (by first | exact E.keeps hS (E.blkc (by assumption) rfl) (by first | exact E.nen | exact E.nes (by assumption) | exact E.nes (Ne.symm (by assumption)))))) ?_
              refine E.GJ.take1 (i := 14) rfl (by kernel_rfl) (by kernel_rfl) (by kernel_rfl) (by kernel_rfl) rfl (by kernel_rfl) (by kernel_rfl) (by intro c a d v w h; cases d <;> exact h) rfl rfl rfl (fun w' hS => (E.Runs.add rfl rfl rfl (IntWalk.i64_in _ (by omega)))) ?_
              refine E.GJ.take1 (i := 15) rfl (by kernel_rfl) (by kernel_rfl) (by kernel_rfl) (by kernel_rfl) rfl (by kernel_rfl) (by kernel_rfl) (by intro c a d v w h; cases d <;> exact h) rfl rfl rfl (fun w' hS => (E.Runs.indexAddrA (i := b0) rfl rfl (by first | rfl | rw [hb0]; rfl) hu22 z3 o3 (by omega) eE (show _ = (⟨gF, b0 * 1, none⟩ : Addr) from by rw [Go.Addr.add_mid, Nat.zero_add]))) ?_
              refine E.GJ.one (i := 16) (by kernel_rfl) (E.OJ.sn rfl rfl rfl (E.ST.storeN rfl z3 o3 rfl rfl cF fF ⟨(E.SJ.behind (by kernel_rfl)).mpr trivial, ?_⟩))
              obtain ⟨w25, hw25, hM25, C25⟩ := stF (setF (chM qs (l.take i)) t0 a0 ((chM qs (l.take i)) t0 a0 - x.f2) t1 b0 + x.f2)
              rw [← hw25]
              clear hM stF
              have hM := hM25
              clear hM25
              replace b14 := C25 _ _ _ _ b14 (by decide) (by decide)
              replace b15 := C25 _ _ _ _ b15 (by decide) (by decide)
              replace b16 := C25 _ _ _ _ b16 (by decide) (by decide)
              refine E.GJ.done (by kernel_rfl) ?_
              refine E.QG.block_normal ?_
              refine E.QG.code ?_
              refine E.CG.list ?_
              refine E.GL.run rfl rfl rfl (E.Runs.add rfl rfl rfl (IntWalk.i64_in _ (by omega))) ?_
              refine E.GL.run rfl rfl rfl (E.Runs.move rfl rfl) ?_
              refine E.GL.done ?_
              exact E.QG.round (i + 1) (E.subc rfl (E.subc rfl (E.subc rfl (E.subc rfl (E.subc rfl (E.subc (by unfold outM; rw [hst, hof]; first | rfl | (rw [Int.add_zero]; rfl) | fail) (E.subc rfl (E.subc rfl (E.subc rfl E.subn))))))))) ⟨by omega, (by first | exact hM | (rw [ch_in hx hqu ht0 ha0 hb0 ht1] at hM; exact hM) | fail), all_more2 hmv hx ⟨hmo, by rw [hqu]; omega⟩⟩ (by omega)
        · refine E.GL.st rfl rfl rfl (E.ST.call rfl ent46 (E.evc rfl (E.evc rfl (E.evc rfl E.evn))) ((isMove_calls ps qs A B c d T x false hH (iff_of_false Bool.false_ne_true h54) _ (Kd.C_below hQ hM.bel) hT).mono ?_))
          rintro e w54 ⟨rfl, l54⟩
          refine ⟨_, rfl, ?_⟩
          replace b14 := blk_below b14 l54
          replace hM := hM.below l54
          refine E.GL.run rfl rfl rfl (E.Runs.not rfl rfl) ?_
          refine E.GL.done ?_
          refine E.QG.code ?_
          refine E.CG.cond_t rfl ?_
          refine E.CG.seq ?_
          refine E.CG.list ?_
          refine E.GL.run rfl rfl rfl (E.Runs.assign rfl rfl) ?_
          refine E.GL.run rfl rfl rfl (E.Runs.assign rfl rfl) ?_
          refine E.GL.done ?_
          refine E.QG.code ?_
          refine E.CG.ret ?_
          refine E.QG.pass_ret ?_
          refine E.QG.block_ret ?_
          refine E.QG.pass_ret ?_
          refine E.QG.pass_ret ?_
          refine E.QG.block_ret ?_
          refine E.QG.pass_ret ?_
          exact E.QG.result2 rfl rfl rfl ⟨_, _, rfl, ⟨fun k => absurd hE k, fun _ => ⟨fun k => by rw [Int.toNat_natCast] at k; exact absurd k (fun k => by obtain ⟨⟨q1, q2, q3, q4, q5⟩, q6⟩ := k.mv i x hx; have hub := (usedM_b (fun k hk x hx => (hmv k hk x hx).1) x.f1 x.f0 (n := i)).1; have hst := sumM_step (h := usedF x.f1 x.f0) hx; have huf : usedF x.f1 x.f0 x = x.f2 := if_pos ⟨rfl, rfl⟩; exact h54 ⟨q2, q1, q3, q5, by unfold usedM at hub q6; omega⟩), fun _ => ⟨rfl, rfl⟩⟩⟩, hM.bel⟩
      · refine E.GL.done ?_
        refine E.QG.code ?_
        refine E.CG.seq ?_
        refine E.CG.cond_f rfl ?_
        refine E.CG.exit ?_
        refine E.QG.pass_exit ?_
        refine E.QG.pass_exit ?_
        refine E.QG.block_here ?_
        refine E.QG.code ?_
        refine E.CG.seq ?_
        have hM0 := hM
        have hil : i = l.length := by omega
        subst hil
        rw [List.take_length] at hM hM0
        refine E.CG.list ?_
        refine E.GL.run rfl rfl rfl (E.Runs.fieldAddr rfl rfl hu25 rfl (by assumption) rfl) ?_
        refine E.GL.run rfl rfl rfl (E.Runs.load1 rfl rfl hu22 rfl (E.blkc hM.b3 rfl)) ?_
        refine E.GL.st rfl rfl rfl (E.ST.call rfl ent47 (E.evc rfl E.evn) ((clone47 ps A c _ (Kd.C_below hP hM.bel) hn1).mono ?_))
        rintro e w120 ⟨v120, rfl, R120, l120⟩
        refine ⟨_, rfl, ?_⟩
        replace hM := hM.below l120
        have L13 := l120
        obtain ⟨A17, c17, hv120⟩ := Kd.R_slice R120
        subst hv120
        clear hM
        have hM := hM0
        refine E.GL.run rfl rfl rfl (E.Runs.assign rfl rfl) ?_
        refine E.GL.done ?_
        refine E.QG.code ?_
        refine E.CG.seq ?_
        refine E.CG.seq ?_
        refine E.CG.list ?_
        refine E.GL.run rfl rfl rfl (E.Runs.move rfl rfl) ?_
        refine E.GL.run rfl rfl rfl (E.Runs.len rfl rfl hu68) ?_
        refine E.GL.run rfl rfl rfl (E.Runs.move rfl rfl) ?_
        refine E.GL.done ?_
        refine E.QG.code ?_
        refine E.CG.block ?_
        have hall : ∀ x ∈ l, MvOk qs T x := fun x hx => by obtain ⟨k, hk⟩ := List.mem_iff_getElem?.mp hx; exact (hmv k (by have := (List.getElem?_eq_some_iff.1 hk).1; omega) x hk).1
        have hcb : ∀ m r, _ := fun m r => by have := chM_b (qs := qs) (T := T) (l := l) (n := l.length) (fun k hk x hx => (hmv k hk x hx).1) (by omega) m r; rw [List.take_length] at this; exact this
        have s29_L13 := L13
        refine E.CG.loop (fun (m : Nat) => [(9, .slice (some ⟨gO, 0, none⟩) (T + 1) (T + 1)), (12, .int .i64 (outM qs (l.take l.length))), (17, .slice A17 ps.length c17), (121, .slice (some ⟨gO, 0, none⟩) (T + 1) (T + 1)), (122, .int .i64 ((T + 1 : Nat) : Int)), (123, .int .i64 m)]) (fun m w' => m ≤ T + 1 ∧ Kd.R kI 3 w' w13.heap.size (fun _ => True) (.slice A17 ps.length c17) (thR ps (chM qs l) ps.length m 0) ∧ Below w13.heap.size w13 w' ∧ ∀ a, a < m → ∀ r, r < ps.length → 0 ≤ thA ps (chM qs l) a (r + 1) r) (fun m => T + 1 - m) 0 (E.subc rfl (E.subc rfl (E.subc rfl (E.subc rfl (E.subc rfl (E.subc rfl E.subn)))))) ⟨Nat.zero_le _, by rw [thR_first]; exact R120, L13, fun a ha => by omega⟩ ?_
        rintro m w29 ⟨hm, RT, L13, hth⟩
        refine E.CG.seq ?_
        refine E.CG.list ?_
        refine E.GL.cmp rfl rfl rfl (fun _ h => (E.Runs.lss rfl rfl rfl h)) (fun h124 => ?_) (fun h124 => ?_)
        · have hmT : m ≤ T := by omega
          obtain ⟨AG, cG1, hvm, RG⟩ := hM.rows.at_ (mat_row (chM qs l) hmT)
          rw [matR_len] at hvm
          have RG2 := RG
          rw [matR_len] at RG2
          refine E.GL.done ?_
          refine E.QG.code ?_
          refine E.CG.seq ?_
          refine E.CG.cond_t rfl ?_
          refine E.CG.skip ?_
          refine E.QG.code ?_
          refine E.CG.seq ?_
          refine E.CG.block ?_
          refine E.CG.seq ?_
          refine E.CG.list ?_
          refine E.GL.run rfl rfl rfl (E.Runs.indexAddrA (i := m) rfl rfl rfl hu68 z22 o22 (by omega) rfl (show _ = (⟨gO, m * 1, none⟩ : Addr) from by rw [Go.Addr.add_mid, Nat.zero_add])) ?_
          refine E.GL.run rfl rfl rfl (E.Runs.load1 rfl rfl hu22 rfl (pw_cell_below L13 (hM.rows.cell hvm))) ?_
          refine E.GL.run rfl rfl rfl (E.Runs.assign rfl rfl) ?_
          refine E.GL.done ?_
          refine E.QG.code ?_
          refine E.CG.seq ?_
          refine E.CG.list ?_
          refine E.GL.run rfl rfl rfl (E.Runs.move rfl rfl) ?_
          refine E.GL.run rfl rfl rfl (E.Runs.len rfl rfl hu22) ?_
          refine E.GL.run rfl rfl rfl (E.Runs.move rfl rfl) ?_
          refine E.GL.done ?_
          refine E.QG.code ?_
          refine E.CG.block ?_
          have s32_L13 := L13
          refine E.CG.loop (fun (r : Nat) => [(9, .slice (some ⟨gO, 0, none⟩) (T + 1) (T + 1)), (12, .int .i64 (outM qs (l.take l.length))), (17, .slice A17 ps.length c17), (121, .slice (some ⟨gO, 0, none⟩) (T + 1) (T + 1)), (122, .int .i64 ((T + 1 : Nat) : Int)), (123, .int .i64 m), (127, .slice AG ps.length cG1), (128, .int .i64 ps.length), (129, .int .i64 r)]) (fun r w' => r ≤ ps.length ∧ Kd.R kI 3 w' w13.heap.size (fun _ => True) (.slice A17 ps.length c17) (thR ps (chM qs l) ps.length m r) ∧ Below w13.heap.size w13 w' ∧ ∀ a, a < r → 0 ≤ thA ps (chM qs l) m (a + 1) a) (fun r => ps.length - r) 0 (E.subc rfl (E.subc rfl (E.subc rfl (E.subc rfl (E.subc rfl (E.subc rfl (E.subc rfl (E.subc rfl (E.subc rfl E.subn))))))))) ⟨Nat.zero_le _, RT, L13, fun a ha => by omega⟩ ?_
          rintro r w32 ⟨hr, RT, L13, hth2⟩
          refine E.CG.seq ?_
          refine E.CG.list ?_
          refine E.GL.cmp rfl rfl rfl (fun _ h => (E.Runs.lss rfl rfl rfl h)) (fun h130 => ?_) (fun h130 => ?_)
          · have hrl : r < ps.length := by omega
            obtain ⟨gG, eG, _, cG, _⟩ := rowI_at RG2 (matR_get (chM qs l) hrl)
            have hk1 := hcb m r
            have hk2 := sumN_b2 (fun a => hcb a r) m
            have hp1 := hH.p _ (getD_mem (z := 0) hrl)
            have hk3 : thA ps (chM qs l) m r r = ps.getD r 0 + sumN (fun a => (chM qs l) a r) m := by unfold thA; rw [if_neg (by omega), Int.add_zero]
            have hk4 := thA_after ps (chM qs l) m r
            rw [sumN] at hk4
            refine E.GL.done ?_
            refine E.QG.code ?_
            refine E.CG.seq ?_
            refine E.CG.cond_t rfl ?_
            refine E.CG.skip ?_
            refine E.QG.code ?_
            refine E.CG.seq ?_
            refine E.CG.block ?_
            refine E.CG.seq ?_
            refine E.CG.list ?_
            refine E.GL.run rfl rfl rfl (E.Runs.move rfl rfl) ?_
            refine E.GL.run rfl rfl rfl (E.Runs.indexAddrA (i := r) rfl rfl rfl hu22 z3 o3 (by omega) eG (show _ = (⟨gG, r * 1, none⟩ : Addr) from by rw [Go.Addr.add_mid, Nat.zero_add])) ?_
            refine E.GL.run rfl rfl rfl (E.Runs.load rfl rfl hu3 (pw_cell_below L13 cG)) ?_
            refine E.GL.run rfl rfl rfl (E.Runs.assign rfl rfl) ?_
            refine E.GL.run rfl rfl rfl (E.Runs.assign rfl rfl) ?_
            refine E.GL.done ?_
            refine E.QG.code ?_
            refine E.CG.seq ?_
            obtain ⟨gT, eT, hgT, cT, fT, ⟨_, bT⟩, stT⟩ := rowI_at RT (thR_get hrl)
            refine E.CG.list ?_
            refine E.GL.run rfl rfl rfl (E.Runs.move rfl rfl) ?_
            refine E.GL.run rfl rfl rfl (E.Runs.move rfl rfl) ?_
            refine E.GL.run rfl rfl rfl (E.Runs.indexAddrA (i := r) rfl rfl rfl hu22 z3 o3 (by omega) eT (show _ = (⟨gT, r * 1, none⟩ : Addr) from by rw [Go.Addr.add_mid, Nat.zero_add])) ?_
            refine E.GL.run rfl rfl rfl (E.Runs.load rfl rfl hu3 cT) ?_
            refine E.GL.run rfl rfl rfl (E.Runs.move rfl rfl) ?_
            refine E.GL.run rfl rfl rfl (E.Runs.add rfl rfl rfl (IntWalk.i64_in _ (by omega))) ?_
            refine E.GL.run rfl rfl rfl (E.Runs.indexAddrA (i := r) rfl rfl rfl hu22 z3 o3 (by omega) eT (show _ = (⟨gT, r * 1, none⟩ : Addr) from by rw [Go.Addr.add_mid, Nat.zero_add])) ?_
            refine E.GL.sn rfl rfl (E.ST.storeN rfl z3 o3 rfl rfl cT fT ?_)
            obtain ⟨w34, hw34, RN, g34⟩ := stT (thA ps (chM qs l) m r r + (chM qs l) m r)
            rw [← hw34]
            rw [thR_set _ _ _ (show r < ps.length by omega)] at RN
            replace L13 := E.below_own L13 hgT g34
            clear RT stT g34
            have RT := RN
            clear RN
            refine E.GL.done ?_
            refine E.QG.code ?_
            refine E.CG.seq ?_
            obtain ⟨gT2, eT2, _, cT2, _⟩ := rowI_at RT (thR_get hrl)
            refine E.CG.list ?_
            refine E.GL.run rfl rfl rfl (E.Runs.move rfl rfl) ?_
            refine E.GL.run rfl rfl rfl (E.Runs.move rfl rfl) ?_
            refine E.GL.run rfl rfl rfl (E.Runs.indexAddrA (i := r) rfl rfl rfl hu22 z3 o3 (by omega) eT2 (show _ = (⟨gT2, r * 1, none⟩ : Addr) from by rw [Go.Addr.add_mid, Nat.zero_add])) ?_
            refine E.GL.run rfl rfl rfl (E.Runs.load rfl rfl hu3 cT2) ?_
            refine E.GL.cmp rfl rfl rfl (fun _ h => (E.Runs.lss rfl rfl rfl h)) (fun h145 => ?_) (fun h145 => ?_)
            · refine E.GL.done ?_
              refine E.QG.code ?_
              refine E.CG.cond_t rfl ?_
              refine E.CG.seq ?_
              refine E.CG.list ?_
              refine E.GL.run rfl rfl rfl (E.Runs.assign rfl rfl) ?_
              refine E.GL.run rfl rfl rfl (E.Runs.assign rfl rfl) ?_
              refine E.GL.done ?_
              refine E.QG.code ?_
              refine E.CG.ret ?_
              refine E.QG.block_ret ?_
              refine E.QG.pass_ret ?_
              refine E.QG.pass_ret ?_
              refine E.QG.block_ret ?_
              refine E.QG.block_ret ?_
              refine E.QG.pass_ret ?_
              refine E.QG.pass_ret ?_
              refine E.QG.block_ret ?_
              refine E.QG.pass_ret ?_
              exact E.QG.result2 rfl rfl rfl ⟨_, _, rfl, ⟨fun k => absurd hE k, fun _ => ⟨fun k => by rw [Int.toNat_natCast] at k; exact absurd k (fun k => by have := k.th r m hrl hmT; rw [← ch_th hH hall r m, ← thA_after] at this; omega), fun _ => ⟨rfl, rfl⟩⟩⟩, below_step' hM.bel hM.size L13⟩
            · refine E.GL.done ?_
              refine E.QG.code ?_
              refine E.CG.cond_f rfl ?_
              refine E.CG.skip ?_
              refine E.QG.block_normal ?_
              refine E.QG.code ?_
              refine E.CG.list ?_
              refine E.GL.run rfl rfl rfl (E.Runs.add rfl rfl rfl (IntWalk.i64_in _ (by omega))) ?_
              refine E.GL.run rfl rfl rfl (E.Runs.move rfl rfl) ?_
              refine E.GL.done ?_
              exact E.QG.round (r + 1) (E.subc rfl (E.subc rfl (E.subc rfl (E.subc rfl (E.subc rfl (E.subc rfl (E.subc rfl (E.subc rfl (E.subc rfl E.subn))))))))) ⟨by omega, RT, L13, lt_succ_all hth2 (by omega)⟩ (by omega)
          · refine E.GL.done ?_
            refine E.QG.code ?_
            refine E.CG.seq ?_
            refine E.CG.cond_f rfl ?_
            refine E.CG.exit ?_
            refine E.QG.pass_exit ?_
            refine E.QG.pass_exit ?_
            refine E.QG.block_here ?_
            refine E.QG.block_normal ?_
            refine E.QG.code ?_
            refine E.CG.list ?_
            refine E.GL.run rfl rfl rfl (E.Runs.add rfl rfl rfl (IntWalk.i64_in _ (by omega))) ?_
            refine E.GL.run rfl rfl rfl (E.Runs.move rfl rfl) ?_
            refine E.GL.done ?_
            exact E.QG.round (m + 1) (E.subc rfl (E.subc rfl (E.subc rfl (E.subc rfl (E.subc rfl (E.subc rfl E.subn)))))) ⟨by omega, by rw [← thR_next _ _ m (show ps.length ≤ r by omega)]; exact RT, L13, lt_succ_all hth (fun a ha => hth2 a (by omega))⟩ (by omega)
        · refine E.GL.done ?_
          refine E.QG.code ?_
          refine E.CG.seq ?_
          refine E.CG.cond_f rfl ?_
          refine E.CG.exit ?_
          refine E.QG.pass_exit ?_
          refine E.QG.pass_exit ?_
          refine E.QG.block_here ?_
          refine E.QG.code ?_
          refine E.CG.seq ?_
          refine E.CG.list ?_
          refine E.GL.run rfl rfl rfl (E.Runs.move rfl rfl) ?_
          refine E.GL.run rfl rfl rfl (E.Runs.assign rfl rfl) ?_
          refine E.GL.run rfl rfl rfl (E.Runs.assign rfl rfl) ?_
          refine E.GL.done ?_
          refine E.QG.code ?_
          refine E.CG.ret ?_
          exact E.QG.result2 rfl rfl rfl ⟨_, _, rfl, ⟨fun k => absurd hE k, fun _ => ⟨fun _ => ⟨by rw [List.take_length], rfl⟩, fun k => absurd ⟨fun a x hx => hmv a (by have := (List.getElem?_eq_some_iff.1 hx).1; omega) x hx, fun a m2 ha hm2 => by rw [Int.toNat_natCast] at hm2; rw [← ch_th hH hall a m2, ← thA_after]; exact hth m2 (by omega) a ha⟩ k⟩⟩, below_step' hM.bel hM.size L13⟩

end Go.Proofs.Ytmnjlnkfihklgaa.T
namespace Go.Proofs.Ytmnjlnkfihklgaa.T
open Go.RowKit Go.Proofs.YtmnjlnkfihklgaaW.PrintWords Go.Proofs.YtmnjlnkfihklgaaW.PrintMore
open Go.Proofs.Ytmnjlnkfihklgaa.P
set_option linter.unusedVariables false
set_option linter.unusedSimpArgs false

end Go.Proofs.Ytmnjlnkfihklgaa.T
namespace Go.Proofs.Ytmnjlnkfihklgaa.T
open Go.RowKit Go.Proofs.YtmnjlnkfihklgaaW.PrintWords Go.Proofs.YtmnjlnkfihklgaaW.PrintMore
open Go.Proofs.Ytmnjlnkfihklgaa.P
set_option linter.unusedVariables false
set_option linter.unusedSimpArgs false

/-- The reference's node of a room in a minute; of one of ours. -/
def rN (R r m : Nat) : Nat := 1 + m * R + r
def lastN (R T : Nat) : Nat := 1 + R * (T + 1)
def xN (R T v : Nat) : Nat := if v = 0 then 0 else if v = 1 then lastN R T else rN R ((v - 2) / (T + 1)) ((v - 2) % (T + 1))
theorem xN_zero (R T : Nat) : xN R T 0 = 0 := rfl
theorem xN_one (R T : Nat) : xN R T 1 = lastN R T := rfl
theorem xN_node {R T r m : Nat} (hm : m ≤ T) : xN R T (nodeN T r m) = rN R r m := by
  have h2 := nodeN_two T r m
  unfold xN
  rw [if_neg (by omega), if_neg (by omega), (node_parts hm).1, (node_parts hm).2]
/-- The reference's edges, and its ways. -/
def xE (ps : List Int) (T : Nat) (e : Ed) : Ed := ⟨xN ps.length T e.fr, xN ps.length T e.td, if e.fr ≠ 0 ∧ e.up = -1 then allP ps else e.cap, e.up, e.um⟩
def edX (ps : List Int) (qs : List S45) (T : Nat) : List Ed := (edH ps qs T).map (xE ps T)
end Go.Proofs.Ytmnjlnkfihklgaa.T
namespace Go.Proofs.Ytmnjlnkfihklgaa.T
open Go.RowKit Go.Proofs.YtmnjlnkfihklgaaW.PrintWords Go.Proofs.YtmnjlnkfihklgaaW.PrintMore
open Go.Proofs.Ytmnjlnkfihklgaa.P
set_option linter.unusedVariables false
/-- All ways lie between nodes that there are. -/
def WsOk (ls : List S95) (n : Nat) : Prop := ∀ x ∈ ls, 0 ≤ x.f0 ∧ x.f0 < n ∧ 0 ≤ x.f1 ∧ x.f1 < n
/-- Where the search stands. -/
structure Pb (ls : List S95) (n : Nat) (V : List Nat) (bl : List Int) : Prop where
  nd : V.Nodup
  lt : ∀ x ∈ V, x < n
  v0 : V[0]? = some 0
  lb : bl.length = n
  is : ∀ v, v < n → (¬ bl[v]? = some 0 ↔ v ∈ V ∧ v ≠ 0)
  nn : ∀ x ∈ bl, 0 ≤ x
  back : ∀ (j v : Nat), V[j]? = some v → 0 < j → ∃ (j' k : Nat) (x : S95), j' < j ∧ ls[k]? = some x ∧ V[j']? = some x.f0.toNat ∧ bl[v]? = some ((k : Int) + 1) ∧ x.f1 = v ∧ 0 < x.f2
/-- Whose ways have been looked at. -/
def Dn (ls : List S95) (V : List Nat) (p : Nat) : Prop := ∀ (j v : Nat), j < p → V[j]? = some v → ∀ x ∈ ls, x.f0 = v → 0 < x.f2 → x.f1.toNat ∈ V
def Dk (ls : List S95) (V : List Nat) (u k : Nat) : Prop := ∀ (i : Nat) (x : S95), i < k → ls[i]? = some x → x.f0 = u → 0 < x.f2 → x.f1.toNat ∈ V
section
variable {ls : List S95} {n : Nat} {V : List Nat} {bl : List Int}
theorem Pb.few (h : Pb ls n V bl) : V.length ≤ n := by
  have := nodup_len (k := List.range n) h.nd (fun x hx => List.mem_range.mpr (h.lt x hx))
  simpa using this
theorem Pb.start (hn : 0 < n) : Pb ls n [0] (List.replicate n 0) := by
  refine ⟨by simp, fun x hx => ?_, rfl, by simp, fun v hv => ?_, fun x hx => ?_, fun j v hj h0 => ?_⟩
  · obtain rfl : x = 0 := by simpa using hx
    exact hn
  · rw [List.getElem?_replicate, if_pos hv]
    simp
  · rw [List.mem_replicate] at hx
    omega
  · obtain ⟨j, rfl⟩ : ∃ i, j = i + 1 := ⟨j - 1, by omega⟩
    simp at hj
theorem Pb.found {p u k t : Nat} {x : S95} (h : Pb ls n V bl) (hu : V[p]? = some u) (hx : ls[k]? = some x) (h0 : x.f0 = u) (h1 : 0 < x.f2) (ht : x.f1 = t) (htn : t < n) (ht0 : t ≠ 0) (hb : bl[t]? = some 0) : Pb ls n (V ++ [t]) (bl.set t ((k : Int) + 1)) := by
  have htV : t ∉ V := fun q => (h.is t htn).mpr ⟨q, ht0⟩ hb
  have hpl := (List.getElem?_eq_some_iff.1 hu).1
  have hl0 := (List.getElem?_eq_some_iff.1 h.v0).1
  refine ⟨nodup_snoc h.nd htV, fun y hy => ?_, ?_, by simp [h.lb], fun v hv => ?_, fun y hy => ?_, fun j v hj hj0 => ?_⟩
  · rcases List.mem_append.mp hy with q | q
    · exact h.lt y q
    · obtain rfl : y = t := by simpa using q
      exact htn
  · rw [List.getElem?_append_left (by omega)]
    exact h.v0
  · by_cases e : v = t
    · subst e
      rw [List.getElem?_set_self (by rw [h.lb]; exact htn)]
      refine iff_of_true (fun q => ?_) ⟨by simp, ht0⟩
      injection q with q
      omega
    · rw [List.getElem?_set_ne (fun q => e q.symm), h.is v hv]
      simp [e]
  · rcases List.mem_or_eq_of_mem_set hy with q | q
    · exact h.nn y q
    · omega
  · by_cases hlt : j < V.length
    · rw [List.getElem?_append_left hlt] at hj
      obtain ⟨j', k', y, q1, q2, q3, q4, q5, q6⟩ := h.back j v hj hj0
      refine ⟨j', k', y, q1, q2, ?_, ?_, q5, q6⟩
      · rw [List.getElem?_append_left (by omega)]; exact q3
      · rw [List.getElem?_set_ne (fun q => htV (by subst q; exact List.mem_of_getElem? hj))]
        exact q4
    · rw [List.getElem?_append_right (by omega)] at hj
      have hj2 := (List.getElem?_eq_some_iff.1 hj).1
      simp only [List.length_singleton] at hj2
      rw [show j - V.length = 0 by omega] at hj
      obtain rfl : t = v := by simpa using hj
      refine ⟨p, k, x, by omega, hx, ?_, ?_, ht, h1⟩
      · rw [List.getElem?_append_left hpl, hu, h0]
        simp
      · rw [List.getElem?_set_self (by rw [h.lb]; exact htn)]
theorem Dk.first (u : Nat) : Dk ls V u 0 := fun i x hi => by omega
theorem Dk.found {u k t : Nat} {x : S95} (h : Dk ls V u k) (hx : ls[k]? = some x) (ht : x.f1 = t) : Dk ls (V ++ [t]) u (k + 1) := fun i y hi hy a b => by
  by_cases e : i = k
  · subst e
    rw [hx] at hy
    cases hy
    rw [ht]
    simp
  · exact List.mem_append_left _ (h i y (by omega) hy a b)
theorem Dk.not {u k : Nat} {x : S95} (h : Dk ls V u k) (hx : ls[k]? = some x) (hn : x.f0 = u → 0 < x.f2 → x.f1.toNat ∈ V) : Dk ls V u (k + 1) := fun i y hi hy a b => by
  by_cases e : i = k
  · subst e
    rw [hx] at hy
    cases hy
    exact hn a b
  · exact h i y (by omega) hy a b
theorem Dn.next {p u k : Nat} (h : Dn ls V p) (hu : V[p]? = some u) (hk : Dk ls V u k) (hl : ls.length ≤ k) : Dn ls V (p + 1) := fun j v hj hv x hx a b => by
  by_cases e : j = p
  · subst e
    rw [hu] at hv
    cases hv
    obtain ⟨i, hi⟩ := List.mem_iff_getElem?.mp hx
    exact hk i x (by have := (List.getElem?_eq_some_iff.1 hi).1; omega) hi a b
  · exact h j v (by omega) hv x hx a b
/-- A way from the first node, its last step first. -/
def Wl (ls : List S95) (d : Nat → Nat) : Nat → List Int → Prop
  | v, [] => v = 0
  | v, i :: r => v ≠ 0 ∧ ∃ (k : Nat) (x : S95), i = k ∧ ls[k]? = some x ∧ x.f1 = v ∧ 0 < x.f2 ∧ d x.f0.toNat < d v ∧ Wl ls d x.f0.toNat r
/-- What the search returns. -/
def PathOk (ls : List S95) (last : Nat) (P : List Int) (b : Bool) : Prop :=
  (b = true → ∃ d, Wl ls d last P) ∧ (b = false → ∃ S : Nat → Prop, S 0 ∧ ¬ S last ∧ ∀ x ∈ ls, S x.f0.toNat → 0 < x.f2 → S x.f1.toNat)
/-- So much of the way is told. -/
def Wp (ls : List S95) (d : Nat → Nat) (last v : Nat) (P : List Int) : Prop := ∀ r, Wl ls d v r → Wl ls d last (P ++ r)
theorem Wp.first (ls : List S95) (d : Nat → Nat) (v : Nat) : Wp ls d v v [] := fun r h => h
theorem Wp.step {d : Nat → Nat} {last v k : Nat} {P : List Int} {x : S95} (h : Wp ls d last v P) (hv : v ≠ 0) (hx : ls[k]? = some x) (h1 : x.f1 = v) (h2 : 0 < x.f2) (h3 : d x.f0.toNat < d v) : Wp ls d last x.f0.toNat (P ++ [(k : Int)]) := fun r hr => by
  have := h ((k : Int) :: r) ⟨hv, k, x, rfl, hx, h1, h2, h3, hr⟩
  rw [List.append_assoc]
  exact this
theorem Pb.at_ (h : Pb ls n V bl) {v : Nat} (hv : v ∈ V) (h0 : v ≠ 0) : ∃ (k : Nat) (x : S95), ls[k]? = some x ∧ bl[v]? = some ((k : Int) + 1) ∧ x.f1 = v ∧ 0 < x.f2 ∧ x.f0.toNat ∈ V ∧ V.idxOf x.f0.toNat < V.idxOf v := by
  obtain ⟨j, hj⟩ := List.mem_iff_getElem?.mp hv
  have hj0 : 0 < j := by
    rcases Nat.eq_zero_or_pos j with e | e
    · subst e
      rw [h.v0] at hj
      exact absurd (Option.some.inj hj).symm h0
    · exact e
  obtain ⟨j', k, x, q1, q2, q3, q4, q5, q6⟩ := h.back j v hj hj0
  have idx_of : ∀ {k : Nat} {a : Nat}, V[k]? = some a → V.idxOf a = k := fun {k a} hk => by
    have h1 : V.idxOf a < V.length := List.idxOf_lt_length_of_mem (List.mem_of_getElem? hk)
    exact nodup_inj h.nd (by rw [List.getElem?_eq_getElem h1, List.getElem_idxOf h1]) hk
  exact ⟨k, x, q2, q4, q5, q6, List.mem_of_getElem? q3, by rw [idx_of q3, idx_of hj]; exact q1⟩
theorem Pb.closed (h : Pb ls n V bl) (hW : WsOk ls n) (hd : Dn ls V V.length) {last : Nat} (hl : last < n) (hb : bl[last]? = some 0) (hl0 : last ≠ 0) (P : List Int) : PathOk ls last P false := by
  refine ⟨fun q => (by cases q), fun _ => ⟨fun v => v ∈ V, List.mem_of_getElem? h.v0, fun q => (h.is last hl).mpr ⟨q, hl0⟩ hb, fun x hx a b => ?_⟩⟩
  obtain ⟨j, hj⟩ := List.mem_iff_getElem?.mp a
  have := hW x hx
  exact hd j _ (List.getElem?_eq_some_iff.1 hj).1 hj x hx (by omega) b
end
/-! ### In memory -/
structure Qm (w0 w : World) (gB cB n : Nat) (bl : List Int) (v7 : Value) (rw_ : List Int) : Prop where
  by_ : Kd.R kI 3 w w0.heap.size (fun _ => True) (.slice (some ⟨gB, 0, none⟩) n cB) bl
  row : Kd.R kI 3 w w0.heap.size (fun _ => True) v7 rw_
  ap : v7.ownBlock ≠ some gB
  bel : Below w0.heap.size w0 w
  size : w0.heap.size ≤ w.heap.size
section
variable {w0 w w' : World} {gB cB n : Nat} {bl : List Int} {v7 : Value} {rw_ : List Int}
theorem Qm.below (h : Qm w0 w gB cB n bl v7 rw_) (l : Below w.heap.size w w') : Qm w0 w' gB cB n bl v7 rw_ :=
  ⟨Kd.R_below h.by_ l, Kd.R_below h.row l, h.ap, below_step' h.bel h.size l, Nat.le_trans h.size l.size⟩
theorem Qm.set (h : Qm w0 w gB cB n bl v7 rw_) {i : Nat} {x : Int} (hi : bl[i]? = some x) :
    w.cell? ⟨gB, i * 1, none⟩ = some (.int .i64 x) ∧ w.frozen? ⟨gB, i * 1, none⟩ = false ∧ (∀ y : Int, ∃ w', w' = w.setCell ⟨gB, i * 1, none⟩ (.int .i64 y) ∧ Qm w0 w' gB cB n (bl.set i y) v7 rw_) := by
  obtain ⟨g, eA, hg, c1, fr, ⟨cells, hc⟩, st⟩ := rowI_at h.by_ hi
  injection eA with eA
  injection eA with eA
  subst eA
  refine ⟨c1, fr, fun y => ?_⟩
  obtain ⟨w', hw', R', g'⟩ := st y
  refine ⟨w', hw', R', ?_, h.ap, h.bel.grown g' h.size (fun z ez => by cases ez; exact hg), Nat.le_trans h.size g'.size⟩
  exact Kd.R_mono (Kd.R_grown (Kd.R_tight rfl h.row) g' (fun k hk ek => h.ap (by rw [← hk, ek]))) (fun _ _ => trivial)
end
end Go.Proofs.Ytmnjlnkfihklgaa.T
namespace Go.Proofs.Ytmnjlnkfihklgaa.T
open Go.RowKit Go.Proofs.YtmnjlnkfihklgaaW.PrintWords Go.Proofs.YtmnjlnkfihklgaaW.PrintMore
open Go.Proofs.Ytmnjlnkfihklgaa.P
set_option linter.unusedVariables false
set_option linter.unusedSimpArgs false

end Go.Proofs.Ytmnjlnkfihklgaa.T
namespace Go.Proofs.Ytmnjlnkfihklgaa.T
open Go.RowKit Go.Proofs.YtmnjlnkfihklgaaW.PrintWords Go.Proofs.YtmnjlnkfihklgaaW.PrintMore
open Go.Proofs.Ytmnjlnkfihklgaa.P
set_option linter.unusedVariables false
/-- The ways, with what flows. -/
def wayF (f : Nat → Int) : List Ed → Nat → List S95
  | [], _ => []
  | e :: r, k => ⟨e.fr, e.td, e.cap - f k⟩ :: ⟨e.td, e.fr, f k⟩ :: wayF f r (k + 1)
def hI (h : Nat × Bool) : Nat := 2 * h.1 + if h.2 then 0 else 1
theorem wayF_at (f : Nat → Int) : ∀ {E : List Ed} {k0 i : Nat} {e : Ed}, E[i]? = some e → (wayF f E k0)[2 * i]? = some ⟨e.fr, e.td, e.cap - f (k0 + i)⟩ ∧ (wayF f E k0)[2 * i + 1]? = some ⟨e.td, e.fr, f (k0 + i)⟩
  | [], _, _, _, h => by simp at h
  | a :: r, k0, 0, e, h => by
    obtain rfl : a = e := by simpa using h
    exact ⟨rfl, rfl⟩
  | a :: r, k0, i + 1, e, h => by
    have ih := wayF_at f (E := r) (k0 := k0 + 1) (i := i) (e := e) (by simpa using h)
    rw [show k0 + 1 + i = k0 + (i + 1) by omega] at ih
    refine ⟨?_, ?_⟩
    · rw [show 2 * (i + 1) = 2 * i + 1 + 1 by omega]
      simpa [wayF] using ih.1
    · rw [show 2 * (i + 1) + 1 = 2 * i + 1 + 1 + 1 by omega]
      simpa [wayF] using ih.2
theorem wayF_half {f : Nat → Int} {E : List Ed} {k : Nat} {e : Ed} (h : E[k]? = some e) (b : Bool) : (wayF f E 0)[hI (k, b)]? = some ⟨near e b, far e b, roomP E f (k, b)⟩ := by
  obtain ⟨h1, h2⟩ := wayF_at f (k0 := 0) h
  rw [Nat.zero_add] at h1 h2
  unfold hI roomP near far
  cases b
  · simp only [Bool.false_eq_true, if_false]
    exact h2
  · simp only [if_true, Nat.add_zero, getD_at h]
    exact h1
/-- A way, by the halves of its edges. -/
def Wh (E : List Ed) (f : Nat → Int) : Nat → List (Nat × Bool) → Prop
  | v, [] => v = 0
  | v, (k, b) :: r => v ≠ 0 ∧ ∃ e, E[k]? = some e ∧ far e b = v ∧ 0 < roomP E f (k, b) ∧ Wh E f (near e b) r
theorem wh_congr {E : List Ed} {f g : Nat → Int} : ∀ {H : List (Nat × Bool)} {v : Nat}, (∀ h ∈ H, roomP E g h = roomP E f h) → Wh E f v H → Wh E g v H
  | [], _, _, h => h
  | (k, b) :: r, v, hr, ⟨h1, e, h3, h4, h7, h8⟩ => ⟨h1, e, h3, h4, by rw [hr _ List.mem_cons_self]; exact h7, wh_congr (fun h hm => hr h (List.mem_cons_of_mem _ hm)) h8⟩
theorem wh_step {E : List Ed} {f : Nat → Int} {k : Nat} {b : Bool} {r : List (Nat × Bool)} {v : Nat} {e : Ed} (he : E[k]? = some e) (hf : far e b = v) (h0 : 0 < roomP E f (k, b)) (hw : Wh E f (near e b) r) (hnd : (((k, b) :: r).map Prod.fst).Nodup) (ho : FlowOk E f) :
    Wh E (upd f k (sgn b 1)) (near e b) r ∧ (r.map Prod.fst).Nodup ∧ FlowOk E (upd f k (sgn b 1)) ∧ ∀ u, exc (upd f k (sgn b 1)) u E 0 = exc f u E 0 + (if v = u then 1 else 0) - (if near e b = u then 1 else 0) := by
  rw [List.map_cons, List.nodup_cons] at hnd
  have hr : ∀ h ∈ r, roomP E (upd f k (sgn b 1)) h = roomP E f h := fun h hm => by
    obtain ⟨j, c⟩ := h
    exact room_upd_other c _ (fun q => hnd.1 (by subst q; exact List.mem_map.mpr ⟨_, hm, rfl⟩))
  refine ⟨wh_congr hr hw, hnd.2, fun j a ha => ?_, fun u => ?_⟩
  · by_cases q : j = k
    · subst q
      rw [he] at ha
      cases ha
      have h2 := ho j e he
      rw [upd_same]
      unfold roomP at h0
      rw [getD_at he] at h0
      cases b
      · simp only [sgn, Bool.false_eq_true, if_false] at h0 ⊢
        omega
      · simp only [sgn, if_true] at h0 ⊢
        omega
    · rw [upd_other f _ q]
      exact ho j a ha
  · have := exc_upd f u (sgn b 1) E 0 k e he
    rw [Nat.zero_add] at this
    rw [this]
    subst hf
    cases b
    · simp only [near, far, sgn, Bool.false_eq_true, if_false]
      split <;> split <;> omega
    · simp only [near, far, sgn, if_true]
/-! ### The two numberings of the nodes -/
theorem rN_lt {R T r m : Nat} (hr : r < R) (hm : m ≤ T) : 0 < rN R r m ∧ rN R r m < lastN R T := by
  have h1 := Nat.mul_le_mul_right R hm
  unfold rN lastN
  rw [Nat.mul_add, Nat.mul_one, Nat.mul_comm R T]
  omega
theorem rN_inj {R r m s k : Nat} (hr : r < R) (hs : s < R) (h : rN R r m = rN R s k) : r = s ∧ m = k := by
  unfold rN at h
  have h1 : (m * R + r) % R = (k * R + s) % R := by congr 1; omega
  have h2 : (m * R + r) / R = (k * R + s) / R := by congr 1; omega
  rw [Nat.mul_comm m R, Nat.mul_comm k R] at h1 h2
  rw [Nat.mul_add_mod, Nat.mul_add_mod, Nat.mod_eq_of_lt hr, Nat.mod_eq_of_lt hs] at h1
  rw [Nat.mul_add_div (by omega), Nat.mul_add_div (by omega), Nat.div_eq_of_lt hr, Nat.div_eq_of_lt hs] at h2
  exact ⟨h1, by omega⟩
theorem lastN_pos (R T : Nat) : 0 < lastN R T := by unfold lastN; omega
theorem xN_inj {R T v u : Nat} (hv : v < nodeN T R 0) (hu : u < nodeN T R 0) (h : xN R T v = xN R T u) : v = u := by
  have kind : ∀ v, v < nodeN T R 0 → v = 0 ∨ v = 1 ∨ ∃ r m, r < R ∧ m ≤ T ∧ v = nodeN T r m := fun v hv => by
    by_cases e0 : v = 0
    · exact .inl e0
    · by_cases e1 : v = 1
      · exact .inr (.inl e1)
      · exact .inr (.inr (node_of (by omega) hv))
  have lp := lastN_pos R T
  rcases kind v hv with rfl | rfl | ⟨r, m, hr, hm, rfl⟩
  · rcases kind u hu with rfl | rfl | ⟨s, k, hs, hk, rfl⟩
    · rfl
    · rw [xN_zero, xN_one] at h; omega
    · rw [xN_zero, xN_node hk] at h; have := rN_lt hs hk; omega
  · rcases kind u hu with rfl | rfl | ⟨s, k, hs, hk, rfl⟩
    · rw [xN_zero, xN_one] at h; omega
    · rfl
    · rw [xN_one, xN_node hk] at h; have := rN_lt hs hk; omega
  · rcases kind u hu with rfl | rfl | ⟨s, k, hs, hk, rfl⟩
    · rw [xN_zero, xN_node hm] at h; have := rN_lt hr hm; omega
    · rw [xN_one, xN_node hm] at h; have := rN_lt hr hm; omega
    · rw [xN_node hm, xN_node hk] at h
      obtain ⟨rfl, rfl⟩ := rN_inj hr hs h
      rfl
theorem exc_map {f : Nat → Int} {F : Ed → Ed} {g : Nat → Nat} {v : Nat} : ∀ {E : List Ed} {k : Nat}, (∀ e ∈ E, ((F e).fr = g v ↔ e.fr = v) ∧ ((F e).td = g v ↔ e.td = v)) → exc f (g v) (E.map F) k = exc f v E k
  | [], _, _ => rfl
  | e :: r, k, h => by
    have h1 := h e List.mem_cons_self
    simp only [List.map_cons, exc, exc_map (E := r) (k := k + 1) (fun x hx => h x (List.mem_cons_of_mem _ hx)), h1.1, h1.2]
section
variable {ps : List Int} {qs : List S45} {T : Nat} {f : Nat → Int}
theorem edX_at {k : Nat} {e : Ed} (h : (edH ps qs T)[k]? = some e) : (edX ps qs T)[k]? = some (xE ps T e) := by
  unfold edX
  rw [List.getElem?_map, h]
  rfl
theorem edX_exc (h : HOk ps qs) {v : Nat} (hv : v < nodeN T ps.length 0) : exc f (xN ps.length T v) (edX ps qs T) 0 = exc f v (edH ps qs T) 0 := by
  unfold edX
  refine exc_map (g := xN ps.length T) fun e he => ?_
  obtain ⟨h1, h2, _⟩ := edH_ok (T := T) h e he
  exact ⟨⟨fun q => xN_inj h1 hv q, fun q => by rw [← q]; rfl⟩, ⟨fun q => xN_inj h2 hv q, fun q => by rw [← q]; rfl⟩⟩
theorem allP_nonneg (h : HOk ps qs) : 0 ≤ allP ps := by
  unfold allP
  exact sumN_nonneg fun r hr => (h.p _ (getD_mem (z := 0) hr)).1
theorem edX_cap (h : HOk ps qs) : ∀ e ∈ edX ps qs T, 0 ≤ e.cap ∧ e.cap ≤ 1073741824 := by
  intro e he
  obtain ⟨a, ha, rfl⟩ := List.mem_map.mp he
  have h1 := edH_cap h a ha
  have h2 := allP_le h
  have h3 := allP_nonneg h
  unfold xE
  simp only
  split <;> omega
/-- Where the reference stands: so many are out. -/
structure Xf (ps : List Int) (qs : List S45) (T : Nat) (f : Nat → Int) (n : Int) : Prop where
  ok : FlowOk (edX ps qs T) f
  calm : ∀ v, v ≠ 0 → v ≠ lastN ps.length T → exc f v (edX ps qs T) 0 = 0
  out : exc f (lastN ps.length T) (edX ps qs T) 0 = n
theorem Xf.first (h : HOk ps qs) : Xf ps qs T (fun _ => 0) 0 := ⟨fun k e he => ⟨Int.le_refl _, (edX_cap h e (List.mem_of_getElem? he)).1⟩, fun v _ _ => exc_zero v _ 0, exc_zero _ _ 0⟩
theorem Xf.hflow {n : Int} (X : Xf ps qs T f n) (h : HOk ps qs) : HFlow ps qs T f n := by
  refine ⟨fun k e he => (X.ok k _ (edX_at he)).1, fun k e he hc => ?_, fun v hv h0 h1 => ?_, ?_⟩
  · have := (X.ok k _ (edX_at he)).2
    unfold xE at this
    simp only at this
    rw [if_neg (fun z => by rcases hc with q | q; exact z.1 q; exact q z.2)] at this
    exact this
  · rw [← edX_exc h hv]
    have lp := lastN_pos ps.length T
    refine X.calm _ (fun e => h0 ?_) (fun e => h1 ?_)
    · exact xN_inj hv (by have := one_lt ps T; omega) (e.trans (xN_zero _ _).symm)
    · exact xN_inj hv (one_lt ps T) (e.trans (xN_one _ _).symm)
  · rw [← edX_exc h (one_lt ps T), xN_one]
    exact X.out
theorem Xf.le {n : Int} (X : Xf ps qs T f n) (h : HOk ps qs) : n ≤ allP ps := (X.hflow h).out_le h
theorem bound_all (h : HOk ps qs) : boundU ps qs T (fun _ => T + 1) = allP ps := by
  unfold boundU allP
  rw [sumQ_congr (b := fun _ _ => 0), sumQ_zero, Int.add_zero]
  · exact sumN_congr fun r _ => if_pos (Nat.succ_pos T)
  · intro i k _ hk
    exact if_neg (fun z => by have h1 : T + 1 ≤ k := z.1; omega)
theorem Xf.most {n : Int} (X : Xf ps qs T f n) (h : HOk ps qs) (S : Nat → Prop) (h0 : S 0) (h1 : ¬ S (lastN ps.length T)) (hc : ∀ x ∈ wayF f (edX ps qs T) 0, S x.f0.toNat → 0 < x.f2 → S x.f1.toNat) : IsMost ps qs T n := by
  have F := X.hflow h
  have half : ∀ (k : Nat) (e : Ed), (edX ps qs T)[k]? = some e → ∀ b, S (near e b) → ¬ S (far e b) → roomP (edX ps qs T) f (k, b) ≤ 0 := by
    intro k e he b hs ht
    have := hc _ (List.mem_of_getElem? (wayF_half (f := f) he b))
    simp only [Int.toNat_natCast] at this
    by_cases q : 0 < roomP (edX ps qs T) f (k, b)
    · exact absurd (this hs q) ht
    · omega
  have cut : ∀ (k : Nat) (e : Ed), (edH ps qs T)[k]? = some e → (S (xN ps.length T e.fr) → ¬ S (xN ps.length T e.td) → f k = (xE ps T e).cap) ∧ (¬ S (xN ps.length T e.fr) → S (xN ps.length T e.td) → f k = 0) := by
    intro k e he
    have hx := edX_at he
    have hok := X.ok k _ hx
    refine ⟨fun a b => ?_, fun a b => ?_⟩
    · have := half k _ hx true a b
      unfold roomP at this
      rw [getD_at hx] at this
      simp only [if_true] at this
      omega
    · have := half k _ hx false b a
      unfold roomP at this
      simp only [Bool.false_eq_true, if_false] at this
      omega
  by_cases sat : ∃ r m k, r < ps.length ∧ m < T ∧ (edH ps qs T)[k]? = some (holdE T r m) ∧ f k = allP ps
  · obtain ⟨r, m, k, hr, hm, hk, e⟩ := sat
    have a1 := F.hold_le h hm hk
    have a2 := F.out_le h
    obtain rfl : n = allP ps := by omega
    exact ⟨⟨_, F.use h⟩, fun _ => T + 1, fun _ _ => Nat.le_refl _, bound_all h⟩
  · have up : ∀ r m, r < ps.length → m < T → S (rN ps.length r m) → S (rN ps.length r (m + 1)) := by
      intro r m hr hm hs
      refine Classical.byContradiction fun q => ?_
      obtain ⟨k, hk⟩ := hold_mem (qs := qs) hr hm
      have c1 := (cut k _ hk).1
      have hn := nodeN_two T r m
      unfold holdE at c1
      simp only [xN_node (show m ≤ T by omega), xN_node (show m + 1 ≤ T by omega)] at c1
      have := c1 hs q
      unfold xE at this
      simp only at this
      rw [if_pos ⟨by omega, trivial⟩] at this
      exact sat ⟨r, m, k, hr, hm, hk, this⟩
    have ups : ∀ r m, r < ps.length → S (rN ps.length r m) → ∀ j, m + j ≤ T → S (rN ps.length r (m + j)) := by
      intro r m hr hi j
      induction j with
      | zero => intro _; exact hi
      | succ j ih =>
        intro hj
        exact up r (m + j) hr (by omega) (ih (by omega))
    have hx : ∀ r, ∃ h, h ≤ T + 1 ∧ (∀ m, m < h → ¬ S (rN ps.length r m)) ∧ (h ≤ T → S (rN ps.length r h)) := fun r => first_of (fun m => S (rN ps.length r m)) T
    have hsp := fun r => Classical.choose_spec (hx r)
    refine ⟨⟨_, F.use h⟩, fun r => Classical.choose (hx r), fun r _ => (hsp r).1, ?_⟩
    refine F.most h (fun v => S (xN ps.length T v)) (by rw [xN_zero]; exact h0) (by rw [xN_one]; exact h1) _ (fun r m hr hm => ?_) (fun k e he => ?_)
    · rw [xN_node hm]
      obtain ⟨q1, q2, q3⟩ := hsp r
      constructor
      · intro q
        have := ups r _ hr (q3 (by omega)) (m - Classical.choose (hx r)) (by omega)
        rw [show Classical.choose (hx r) + (m - Classical.choose (hx r)) = m by omega] at this
        exact this
      · intro q
        by_cases z : Classical.choose (hx r) ≤ m
        · exact z
        · exact absurd q (q2 m (by omega))
    · refine ⟨fun a b => ?_, (cut k e he).2⟩
      have c1 := (cut k e he).1 a b
      rw [c1]
      unfold xE
      simp only
      by_cases z : e.fr ≠ 0 ∧ e.up = -1
      · refine absurd ?_ sat
        rcases List.mem_append.mp (List.mem_of_getElem? he) with hm | hm
        · obtain ⟨r, hr, rfl | ⟨m, hm', rfl⟩⟩ := edRs_mem hm
          · exact absurd rfl z.1
          · refine ⟨r, m, k, hr, hm', he, ?_⟩
            rw [c1]
            unfold xE
            simp only
            exact if_pos ⟨z.1, trivial⟩
        · obtain ⟨i, m, hi, hm', rfl⟩ := edQs_mem hm
          have := z.2
          simp only at this
          omega
      · rw [if_neg z]
end
end Go.Proofs.Ytmnjlnkfihklgaa.T
namespace Go.Proofs.Ytmnjlnkfihklgaa.T
open Go.RowKit Go.Proofs.YtmnjlnkfihklgaaW.PrintWords Go.Proofs.YtmnjlnkfihklgaaW.PrintMore
open Go.Proofs.Ytmnjlnkfihklgaa.P
set_option linter.unusedVariables false
set_option linter.unusedSimpArgs false

/-- A flow, and one more who is on the way to a node. -/
structure Xg (E : List Ed) (last : Nat) (f g : Nat → Int) (v : Nat) (H : List (Nat × Bool)) : Prop where
  wh : Wh E g v H
  nd : (H.map Prod.fst).Nodup
  ok : FlowOk E g
  exc : ∀ u, exc g u E 0 = T.exc f u E 0 + (if last = u then 1 else 0) - (if v = u then 1 else 0)
theorem Xg.step {E : List Ed} {last : Nat} {f g : Nat → Int} {k : Nat} {b : Bool} {r : List (Nat × Bool)} {v : Nat} {e : Ed} (X : Xg E last f g v ((k, b) :: r)) (he : E[k]? = some e) : Xg E last f (upd g k (sgn b 1)) (near e b) r := by
  obtain ⟨_, e', he', hf, h0, hw⟩ := X.wh
  rw [he] at he'
  cases he'
  obtain ⟨q1, q2, q3, q4⟩ := wh_step he hf h0 hw X.nd X.ok
  refine ⟨q1, q2, q3, fun u => ?_⟩
  rw [q4, X.exc]
  omega
theorem Xg.last {ps : List Int} {qs : List S45} {T v : Nat} {f g : Nat → Int} {n : Int} (X : Xg (edX ps qs T) (lastN ps.length T) f g v []) (F : Xf ps qs T f n) : Xf ps qs T g (n + 1) := by
  have h0 : v = 0 := X.wh
  subst h0
  have lp := lastN_pos ps.length T
  refine ⟨X.ok, fun u h1 h2 => ?_, ?_⟩
  · rw [X.exc, F.calm u h1 h2, if_neg (fun e => h2 e.symm), if_neg (fun e => h1 e.symm)]
    rfl
  · rw [X.exc, F.out, if_pos rfl, if_neg (by omega)]
    omega
end Go.Proofs.Ytmnjlnkfihklgaa.T
namespace Go.Proofs.Ytmnjlnkfihklgaa.T
open Go.RowKit Go.Proofs.YtmnjlnkfihklgaaW.PrintWords Go.Proofs.YtmnjlnkfihklgaaW.PrintMore
open Go.Proofs.Ytmnjlnkfihklgaa.P
set_option linter.unusedVariables false
set_option linter.unusedSimpArgs false

theorem isPl_all' {ps : List Int} {qs : List S45} {T : Nat} {l : List S35} (h : IsPl ps qs T l) : ∀ x ∈ l, MvOk qs T x := fun x hx => by
  obtain ⟨i, hi⟩ := List.mem_iff_getElem?.mp hx
  exact (h.mv i x hi).1

/-- Up to a later minute there are no fewer. -/
theorem sumN_more {a : Nat → Int} (h : ∀ k, 0 ≤ a k) {n : Nat} : ∀ {m}, n ≤ m → sumN a n ≤ sumN a m
  | 0, hm => by rw [show n = 0 by omega]; exact Int.le_refl _
  | m + 1, hm => by
    by_cases e : n = m + 1
    · rw [e]; exact Int.le_refl _
    · have h1 := sumN_more h (n := n) (m := m) (by omega)
      have h2 := h m
      simp only [sumN]
      omega
theorem bound_later {ps : List Int} {qs : List S45} (h : HOk ps qs) {T V : Nat} (hTV : T ≤ V) (hr : Nat → Nat) : boundU ps qs T hr ≤ boundU ps qs V hr := by
  unfold boundU
  refine Int.add_le_add_left ?_ _
  unfold sumQ
  refine sumN_le fun i hi => sumN_more (fun k => ?_) (by omega)
  have := (h.q _ (getD_mem (z := z45) hi)).2.2.2.2.2.1
  dsimp only
  split
  · exact this
  · exact Int.le_refl _
theorem most_later {ps : List Int} {qs : List S45} (h : HOk ps qs) {T V : Nat} {N M : Int} (hTV : T ≤ V) (a : IsMost ps qs T N) (b : IsMost ps qs V M) : N ≤ M := by
  obtain ⟨⟨u, hu, eu⟩, _⟩ := a
  obtain ⟨_, hr, _, er⟩ := b
  have h1 := use_le h hu hr
  have h2 := bound_later h hTV hr
  omega
end Go.Proofs.Ytmnjlnkfihklgaa.T
namespace Go.Proofs.Ytmnjlnkfihklgaa.T
open Go.RowKit Go.Proofs.YtmnjlnkfihklgaaW.PrintWords Go.Proofs.YtmnjlnkfihklgaaW.PrintMore
open Go.Proofs.Ytmnjlnkfihklgaa.P
set_option linter.unusedVariables false
abbrev eP : List Int := [5, 4]
abbrev eQ : List S45 := [⟨0, 1, 2, 1⟩, ⟨0, -1, 1, 2⟩, ⟨1, -1, 3, 1⟩, ⟨1, 0, 1, 1⟩]
def uL : List (Nat × Nat × Int) → Nat → Nat → Int
  | [], _, _ => 0
  | (a, b, c) :: r, i, k => if a = i ∧ b = k then c else uL r i k
theorem use_of {ps : List Int} {qs : List S45} {T : Nat} {u : Nat → Nat → Int} (h : ∀ i, i < qs.length → ∀ k, k < T + 1 → k + (qs.getD i z45).f3.toNat < T + 1 → 0 ≤ u i k ∧ u i k ≤ (qs.getD i z45).f2) (h2 : ∀ r, r < ps.length → ∀ m, m < T + 1 → 0 ≤ thereU ps qs T u r m) : Use ps qs T u :=
  ⟨fun i k hi hk => h i hi k (by omega) hk, fun r m hr hm => h2 r hr m (by omega)⟩
def hrL (l : List Nat) (r : Nat) : Nat := l.getD r 0
theorem eOk : HOk eP eQ := by decide
set_option maxRecDepth 100000 in
theorem eMost2 : IsMost eP eQ 2 7 := ⟨⟨uL [(0, 0, 2), (1, 0, 1), (2, 0, 3), (2, 1, 3)], use_of (by decide) (by decide), by decide⟩, hrL [0, 0], by decide, by decide⟩
set_option maxRecDepth 100000 in
theorem eMost3 : IsMost eP eQ 3 9 := ⟨⟨uL [(0, 0, 2), (0, 1, 1), (1, 0, 1), (1, 1, 1), (2, 0, 3), (2, 1, 3), (2, 2, 1)], use_of (by decide) (by decide), by decide⟩, hrL [2, 3], by decide, by decide⟩
set_option maxRecDepth 100000 in
theorem eShut0 : IsMost eP (shutQ eQ 0) 3 6 := ⟨⟨uL [(1, 0, 1), (1, 1, 1), (2, 0, 3), (2, 1, 1)], use_of (by decide) (by decide), by decide⟩, hrL [0, 3], by decide, by decide⟩
set_option maxRecDepth 100000 in
theorem eShut1 : IsMost eP (shutQ eQ 1) 3 8 := ⟨⟨uL [(0, 0, 2), (0, 1, 2), (2, 0, 3), (2, 1, 3), (2, 2, 2)], use_of (by decide) (by decide), by decide⟩, hrL [0, 3], by decide, by decide⟩
set_option maxRecDepth 100000 in
theorem eShut2 : IsMost eP (shutQ eQ 2) 3 2 := ⟨⟨uL [(1, 0, 1), (1, 1, 1)], use_of (by decide) (by decide), by decide⟩, hrL [0, 0], by decide, by decide⟩
set_option maxRecDepth 100000 in
theorem eShut3 : IsMost eP (shutQ eQ 3) 3 9 := ⟨⟨uL [(0, 0, 2), (0, 1, 1), (1, 0, 1), (1, 1, 1), (2, 0, 3), (2, 1, 3), (2, 2, 1)], use_of (by decide) (by decide), by decide⟩, hrL [2, 3], by decide, by decide⟩
theorem eAll : allP eP = 9 := by decide
theorem eChk (m : Int) (h : inR m 0 60) : chkE eP eQ m = 0 := chkE_ok.mpr ⟨eOk, h⟩
theorem eMostR {N : Int} (h : MostR eP eQ 2 N) : N = 7 := (h.1 (eChk 2 (by decide))).one eOk eMost2
theorem eEmptyR {N E : Int} (h : EmptyR eP eQ N E) : N = 3 ∧ E = 0 := by
  rcases h.2 eOk with ⟨t, h1, h2, h3, h4, h5⟩ | ⟨h1, h2, h3⟩
  · refine ⟨?_, h3⟩
    rw [h2]
    rcases Nat.lt_trichotomy t 3 with q | q | q
    · have := most_later eOk (show t ≤ 2 by omega) h4 eMost2
      rw [eAll] at this
      omega
    · omega
    · exact absurd (by rw [eAll]; exact eMost3) (h5 3 q)
  · exact absurd (by rw [eAll]; exact eMost3) (h3 3 (by omega))
theorem eNeed : needL eP eQ 3 4 = [0, 1, 2] := by
  have a0 : needP eP eQ 3 0 := ⟨6, eShut0, by decide⟩
  have a1 : needP eP eQ 3 1 := ⟨8, eShut1, by decide⟩
  have a2 : needP eP eQ 3 2 := ⟨2, eShut2, by decide⟩
  have a3 : ¬ needP eP eQ 3 3 := fun ⟨M, h1, h2⟩ => by
    have := IsMost.one (shutQ_ok eOk (by decide)) h1 eShut3
    rw [eAll] at h2
    omega
  rw [needL_no a3, needL_yes a2, needL_yes a1, needL_yes a0]
  rfl
theorem eNeedR {l : List Int} (h : NeedR eP eQ 3 l) : l = [0, 1, 2] := (h.1 (eChk 3 (by decide))).trans eNeed
abbrev eL : List S35 := [⟨0, 0, 2⟩, ⟨0, 1, 1⟩, ⟨0, 2, 3⟩, ⟨1, 2, 3⟩]
theorem isPl_of {ps : List Int} {qs : List S45} {T : Nat} {l : List S35} (h : ∀ i, i < l.length → Mv1 qs T l i (l.getD i ⟨0, 0, 0⟩)) (h2 : ∀ r, r < ps.length → ∀ m, m < T + 1 → 0 ≤ thM ps qs l r m) : IsPl ps qs T l :=
  ⟨fun i x hx => by
    have hi := (List.getElem?_eq_some_iff.1 hx).1
    have := h i hi
    rw [show l.getD i ⟨0, 0, 0⟩ = x by simp [List.getD_eq_getElem?_getD, hx]] at this
    exact this, fun r m hr hm => h2 r hr m (by omega)⟩
instance (qs : List S45) (T : Int) (x : S35) : Decidable (MvOk qs T x) := by unfold MvOk; infer_instance
instance (qs : List S45) (T : Int) (l : List S35) (i : Nat) (x : S35) : Decidable (Mv1 qs T l i x) := by unfold Mv1; infer_instance
set_option maxRecDepth 100000 in
theorem ePlan : IsPl eP eQ 2 eL := isPl_of (by decide) (by decide)
theorem eGoneR {N E : Int} (h : GoneR eP eQ 2 eL N E) : N = 7 ∧ E = 0 := by
  obtain ⟨h1, h2⟩ := (h.2 (eChk 2 (by decide))).1 ePlan
  refine ⟨?_, h2⟩
  rw [h1]
  decide
end Go.Proofs.Ytmnjlnkfihklgaa.T
namespace Go.Proofs.Ytmnjlnkfihklgaa.T
open Go.RowKit Go.Proofs.YtmnjlnkfihklgaaW.PrintWords Go.Proofs.YtmnjlnkfihklgaaW.PrintMore
open Go.Proofs.Ytmnjlnkfihklgaa.P
set_option linter.unusedVariables false
set_option linter.unusedSimpArgs false

def big (ps : List Int) (qs : List S45) : Prop := 40 < ps.length ∨ 40 < qs.length
instance (ps : List Int) (qs : List S45) : Decidable (big ps qs) := by unfold big; infer_instance
def farH (ps : List Int) (qs : List S45) : Prop := big ps qs ∨ HOk ps qs ∧ (3 < ps.length ∨ 5 < qs.length ∨ 12 < allP ps)
instance (ps : List Int) (qs : List S45) : Decidable (farH ps qs) := by unfold farH; infer_instance
def late (m : Int) : Prop := 10 < m ∧ m ≤ 60
instance (m : Int) : Decidable (late m) := by unfold late; infer_instance
def ready (ps : List Int) (qs : List S45) (m : Int) : Prop := ¬ farH ps qs ∧ ¬ late m ∧ HOk ps qs ∧ 0 ≤ m ∧ m ≤ 60
instance (ps : List Int) (qs : List S45) (m : Int) : Decidable (ready ps qs m) := by unfold ready; infer_instance
theorem not_big {ps : List Int} {qs : List S45} (h : ¬ big ps qs) : ps.length ≤ 40 ∧ qs.length ≤ 40 := by unfold big at h; omega
theorem not_far {ps : List Int} {qs : List S45} (h : ¬ farH ps qs) : ps.length ≤ 40 ∧ qs.length ≤ 40 := not_big (fun k => h (.inl k))
/-- Whole numbers written out, in a block of ours. -/
theorem C_nums {w : World} {g : Nat} (l : List Int) (hb : w.heap[g]? = some (.cells (l.map (Value.int .i64)).toArray 3 (0, 0))) (hn : l.length ≤ 1000000) : Kd.C kI w (some ⟨g, 0, none⟩) l.length l := by
  refine ⟨rfl, by omega, fun _ => ⟨_, rfl, ?_⟩⟩
  intro j p hj
  refine ⟨[.int .i64 p], rfl, rfl, fun i u hu => ?_⟩
  have hi : i < 1 := (List.getElem?_eq_some_iff.1 hu).1
  obtain rfl : i = 0 := by omega
  cases hu
  rw [Addr.add_mid, blk_cell hb]
  simp [hj, show kI.sz = 1 from rfl]
set_option maxRecDepth 100000 in
set_option maxHeartbeats 8000000 in

theorem huge_calls (ps : List Int) (qs : List S45) (A B : Option Addr) (c d : Nat) (w : World) (r : Bool) (hb : r = true ↔ big ps qs) :
    Calls Try.prog 11 #[hv ps qs A B c d] w fun e w' => e = .returned (.bool r) ∧ Below w.heap.size w w' := by
  unfold big at hb
  have hu3 := Try.underlying3
  have hu22 := Try.underlying22
  have hu23 := Try.underlying23
  have hu25 := Try.underlying25
  obtain ⟨z22, o22⟩ := info_some info22s (by decide)
  obtain ⟨z23, o23⟩ := info_some info23s (by decide)
  refine E.enter (N := 13) Try.func11 rfl Try.ntmps11 (args := [hv ps qs A B c d]) (by simp) ?_
  have L := Below.refl w.heap.size w
  refine E.CG.seq ?_
  refine E.CG.list ?_
  refine E.GL.st rfl rfl rfl (E.ST.box rfl rfl fun g1 w1 e1 b1 l1 => ?_)
  have h1_L : w.heap.size ≤ g1 := by rw [e1]; exact L.size
  replace L := below_step L l1
  refine E.GL.run rfl rfl rfl (E.Runs.assign rfl rfl) ?_
  refine E.GL.done ?_
  refine E.QG.code ?_
  refine E.CG.seq ?_
  refine E.CG.list ?_
  refine E.GL.run rfl rfl rfl (E.Runs.fieldAddr rfl rfl hu25 rfl (by assumption) rfl) ?_
  refine E.GL.run rfl rfl rfl (E.Runs.load1 rfl rfl hu22 rfl (by first | assumption | exact E.blkc (by assumption) rfl | exact pw_cell_below L (by assumption))) ?_
  refine E.GL.run rfl rfl rfl (E.Runs.len rfl rfl hu22) ?_
  refine E.GL.cmp rfl rfl rfl (fun _ h => (E.Runs.gtr rfl rfl rfl h)) (fun h6 => ?_) (fun h6 => ?_)
  · refine E.GL.run rfl rfl rfl (E.Runs.move rfl rfl) ?_
    refine E.GL.skip rfl rfl rfl ?_
    refine E.GL.skip rfl rfl rfl ?_
    refine E.GL.skip rfl rfl rfl ?_
    refine E.GL.skip rfl rfl rfl ?_
    refine E.GL.run rfl rfl rfl (E.Runs.pick_t rfl rfl rfl) ?_
    refine E.GL.run rfl rfl rfl (E.Runs.assign rfl rfl) ?_
    refine E.GL.done ?_
    refine E.QG.code ?_
    refine E.CG.ret ?_
    exact E.QG.result rfl rfl ⟨by rw [hb.mpr (by omega)], L⟩
  · refine E.GL.run rfl rfl rfl (E.Runs.move rfl rfl) ?_
    refine E.GL.run rfl rfl rfl (E.Runs.fieldAddr rfl rfl hu25 rfl (by assumption) rfl) ?_
    refine E.GL.run rfl rfl rfl (E.Runs.load1 rfl rfl hu23 rfl (by first | assumption | exact E.blkc (by assumption) rfl | exact pw_cell_below L (by assumption))) ?_
    refine E.GL.run rfl rfl rfl (E.Runs.len rfl rfl hu23) ?_
    refine E.GL.cmp rfl rfl rfl (fun _ h => (E.Runs.gtr rfl rfl rfl h)) (fun h11 => ?_) (fun h11 => ?_)
    · refine E.GL.run rfl rfl rfl (E.Runs.pick_f rfl rfl rfl) ?_
      refine E.GL.run rfl rfl rfl (E.Runs.assign rfl rfl) ?_
      refine E.GL.done ?_
      refine E.QG.code ?_
      refine E.CG.ret ?_
      exact E.QG.result rfl rfl ⟨by rw [hb.mpr (by omega)], L⟩
    · refine E.GL.run rfl rfl rfl (E.Runs.pick_f rfl rfl rfl) ?_
      refine E.GL.run rfl rfl rfl (E.Runs.assign rfl rfl) ?_
      refine E.GL.done ?_
      refine E.QG.code ?_
      refine E.CG.ret ?_
      exact E.QG.result rfl rfl ⟨by rw [bool_no hb (by omega)], L⟩

set_option maxRecDepth 100000 in
set_option maxHeartbeats 8000000 in

theorem same_calls (l k : List Int) (A A1 : Option Addr) (c c1 : Nat) (w : World) (r : Bool) (hb : r = true ↔ l = k) (h1 : Kd.C kI w A l.length l) (h2 : Kd.C kI w A1 k.length k) (hn : l.length ≤ 1000000) :
    Calls Try.prog 18 #[.slice A l.length c, .slice A1 k.length c1] w fun e w' => e = .returned (.bool r) ∧ Below w.heap.size w w' := by
  have hu3 := Try.underlying3
  have hu22 := Try.underlying22
  obtain ⟨z3, o3⟩ := info_some info3s (by decide)
  refine E.enter (N := 26) Try.func18 rfl Try.ntmps18 (args := [.slice A l.length c, .slice A1 k.length c1]) (by simp) ?_
  have L := Below.refl w.heap.size w
  refine E.CG.seq ?_
  refine E.CG.list ?_
  refine E.GL.run rfl rfl rfl (E.Runs.assign rfl rfl) ?_
  refine E.GL.done ?_
  refine E.QG.code ?_
  refine E.CG.seq ?_
  refine E.CG.seq ?_
  refine E.CG.list ?_
  refine E.GL.run rfl rfl rfl (E.Runs.move rfl rfl) ?_
  refine E.GL.run rfl rfl rfl (E.Runs.len rfl rfl hu22) ?_
  refine E.GL.run rfl rfl rfl (E.Runs.move rfl rfl) ?_
  refine E.GL.run rfl rfl rfl (E.Runs.len rfl rfl hu22) ?_
  refine E.GL.cmpn rfl rfl rfl (fun _ h => (E.Runs.neq rfl rfl rfl h)) (fun h10 => ?_) (fun h10 => ?_)
  · refine E.GL.done ?_
    refine E.QG.code ?_
    refine E.CG.cond_t rfl ?_
    refine E.CG.seq ?_
    refine E.CG.list ?_
    refine E.GL.run rfl rfl rfl (E.Runs.assign rfl rfl) ?_
    refine E.GL.done ?_
    refine E.QG.code ?_
    refine E.CG.ret ?_
    refine E.QG.pass_ret ?_
    exact E.QG.result rfl rfl ⟨by rw [bool_no hb (fun e => h10 (by rw [e]))], L⟩
  · refine E.GL.done ?_
    refine E.QG.code ?_
    refine E.CG.cond_f rfl ?_
    refine E.CG.skip ?_
    refine E.QG.code ?_
    refine E.CG.seq ?_
    refine E.CG.seq ?_
    refine E.CG.list ?_
    refine E.GL.run rfl rfl rfl (E.Runs.assign rfl rfl) ?_
    refine E.GL.done ?_
    refine E.QG.code ?_
    refine E.CG.block ?_
    have s4_L := L
    refine E.CG.loop (fun (i : Nat) => [(0, .slice A l.length c), (1, .slice A1 k.length c1), (5, .int .i64 i)]) (fun i w' => i ≤ l.length ∧ Below w.heap.size w w' ∧ ∀ j, j < i → l[j]? = k[j]?) (fun i => l.length - i) 0 (E.subc rfl (E.subc rfl (E.subc rfl E.subn))) ⟨Nat.zero_le _, L, fun j hj => by omega⟩ ?_
    rintro i w4 ⟨hi, L, hs⟩
    refine E.CG.seq ?_
    refine E.CG.seq ?_
    refine E.CG.list ?_
    refine E.GL.run rfl rfl rfl (E.Runs.move rfl rfl) ?_
    refine E.GL.run rfl rfl rfl (E.Runs.move rfl rfl) ?_
    refine E.GL.run rfl rfl rfl (E.Runs.len rfl rfl hu22) ?_
    refine E.GL.cmp rfl rfl rfl (fun _ h => (E.Runs.lss rfl rfl rfl h)) (fun h14 => ?_) (fun h14 => ?_)
    · obtain ⟨x, hx⟩ : ∃ x, l[i]? = some x := ⟨_, List.getElem?_eq_getElem (by omega)⟩
      obtain ⟨ad, eA, X⟩ := int_at h1 hx
      obtain ⟨y, hy⟩ : ∃ x, k[i]? = some x := ⟨_, List.getElem?_eq_getElem (by omega)⟩
      obtain ⟨ae, eB, Y⟩ := int_at h2 hy
      have hik : (i : Int) < l.length := by omega
      have hik2 : (i : Int) < k.length := by omega
      refine E.GL.done ?_
      refine E.QG.code ?_
      refine E.CG.cond_t rfl ?_
      refine E.CG.skip ?_
      refine E.QG.code ?_
      refine E.CG.seq ?_
      refine E.CG.block ?_
      refine E.CG.seq ?_
      refine E.CG.quietF (by kernel_rfl) rfl (by kernel_rfl) (by kernel_rfl) ?_
      refine E.GQ.run rfl rfl rfl (E.Runs.move rfl rfl) ?_
      refine E.GQ.run rfl rfl rfl (E.Runs.move rfl rfl) ?_
      refine E.GQ.run rfl rfl rfl (E.Runs.indexAddrA rfl rfl rfl hu22 (by assumption) (by assumption) (by assumption) (by first | rfl | assumption) rfl) ?_
      refine E.GQ.run rfl rfl rfl (E.Runs.load rfl rfl hu3 (by first | assumption | exact E.blkc (by assumption) rfl | exact pw_cell_below L (by assumption))) ?_
      refine E.GQ.run rfl rfl rfl (E.Runs.move rfl rfl) ?_
      refine E.GQ.run rfl rfl rfl (E.Runs.move rfl rfl) ?_
      refine E.GQ.run rfl rfl rfl (E.Runs.indexAddrA rfl rfl rfl hu22 (by assumption) (by assumption) (by assumption) (by first | rfl | assumption) rfl) ?_
      refine E.GQ.run rfl rfl rfl (E.Runs.load rfl rfl hu3 (by first | assumption | exact E.blkc (by assumption) rfl | exact pw_cell_below L (by assumption))) ?_
      refine E.GQ.cmpn rfl rfl rfl (fun _ h => (E.Runs.neq rfl rfl rfl h)) (fun h25 => ?_) (fun h25 => ?_)
      · refine E.GQ.doneB fun v6 lD => ?_
        replace L := below_step L lD
        have lD6 := lD
        clear lD
        refine E.QG.code ?_
        refine E.CG.cond_t rfl ?_
        refine E.CG.seq ?_
        refine E.CG.list ?_
        refine E.GL.run rfl rfl rfl (E.Runs.assign rfl rfl) ?_
        refine E.GL.done ?_
        refine E.QG.code ?_
        refine E.CG.ret ?_
        refine E.QG.block_ret ?_
        refine E.QG.pass_ret ?_
        refine E.QG.pass_ret ?_
        refine E.QG.block_ret ?_
        refine E.QG.pass_ret ?_
        exact E.QG.result rfl rfl ⟨by rw [bool_no hb (fun e => by subst e; rw [hx] at hy; cases hy; exact h25 rfl)], L⟩
      · refine E.GQ.doneB fun v6 lD => ?_
        replace L := below_step L lD
        have lD6 := lD
        clear lD
        refine E.QG.code ?_
        refine E.CG.cond_f rfl ?_
        refine E.CG.skip ?_
        refine E.QG.block_normal ?_
        refine E.QG.code ?_
        refine E.CG.list ?_
        refine E.GL.run rfl rfl rfl (E.Runs.move rfl rfl) ?_
        refine E.GL.run rfl rfl rfl (E.Runs.add rfl rfl rfl (IntWalk.i64_in _ (by omega))) ?_
        refine E.GL.run rfl rfl rfl (E.Runs.assign rfl rfl) ?_
        refine E.GL.done ?_
        exact E.QG.round (i + 1) (E.subc rfl (E.subc rfl (E.subc rfl E.subn))) ⟨by omega, L, fun j hj => (Nat.lt_or_ge j i).elim (hs j) (fun q => (show j = i by omega) ▸ (by rw [hx, hy, h25]))⟩ (by omega)
    · refine E.GL.done ?_
      refine E.QG.code ?_
      refine E.CG.cond_f rfl ?_
      refine E.CG.exit ?_
      refine E.QG.pass_exit ?_
      refine E.QG.pass_exit ?_
      refine E.QG.block_here ?_
      refine E.QG.code ?_
      refine E.CG.seq ?_
      refine E.CG.list ?_
      refine E.GL.run rfl rfl rfl (E.Runs.assign rfl rfl) ?_
      refine E.GL.done ?_
      refine E.QG.code ?_
      refine E.CG.ret ?_
      exact E.QG.result rfl rfl ⟨by rw [hb.mpr (List.ext_getElem? fun j => (Nat.lt_or_ge j i).elim (hs j) (fun q => by rw [List.getElem?_eq_none (by omega), List.getElem?_eq_none (by omega)]))], L⟩

set_option maxRecDepth 100000 in
set_option maxHeartbeats 8000000 in

theorem late_calls (m : Int) (w : World) (r : Bool) (hb : r = true ↔ late m) :
    Calls Try.prog 20 #[.int .i64 m] w fun e w' => e = .returned (.bool r) ∧ Below w.heap.size w w' := by
  unfold late at hb
  have hu3 := Try.underlying3
  refine E.enter (N := 9) Try.func20 rfl Try.ntmps20 (args := [.int .i64 m]) (by simp) ?_
  have L := Below.refl w.heap.size w
  refine E.CG.seq ?_
  refine E.CG.list ?_
  refine E.GL.run rfl rfl rfl (E.Runs.assign rfl rfl) ?_
  refine E.GL.done ?_
  refine E.QG.code ?_
  refine E.CG.seq ?_
  refine E.CG.list ?_
  refine E.GL.run rfl rfl rfl (E.Runs.move rfl rfl) ?_
  refine E.GL.cmp rfl rfl rfl (fun _ h => (E.Runs.gtr rfl rfl rfl h)) (fun h4 => ?_) (fun h4 => ?_)
  · refine E.GL.run rfl rfl rfl (E.Runs.move rfl rfl) ?_
    refine E.GL.run rfl rfl rfl (E.Runs.move rfl rfl) ?_
    refine E.GL.cmp rfl rfl rfl (fun _ h => (E.Runs.leq rfl rfl rfl h)) (fun h7 => ?_) (fun h7 => ?_)
    · refine E.GL.run rfl rfl rfl (E.Runs.pick_t rfl rfl rfl) ?_
      refine E.GL.run rfl rfl rfl (E.Runs.assign rfl rfl) ?_
      refine E.GL.done ?_
      refine E.QG.code ?_
      refine E.CG.ret ?_
      exact E.QG.result rfl rfl ⟨by rw [hb.mpr (by omega)], L⟩
    · refine E.GL.run rfl rfl rfl (E.Runs.pick_t rfl rfl rfl) ?_
      refine E.GL.run rfl rfl rfl (E.Runs.assign rfl rfl) ?_
      refine E.GL.done ?_
      refine E.QG.code ?_
      refine E.CG.ret ?_
      exact E.QG.result rfl rfl ⟨by rw [bool_no hb (by omega)], L⟩
  · refine E.GL.run rfl rfl rfl (E.Runs.move rfl rfl) ?_
    refine E.GL.skip rfl rfl rfl ?_
    refine E.GL.skip rfl rfl rfl ?_
    refine E.GL.run rfl rfl rfl (E.Runs.pick_f rfl rfl rfl) ?_
    refine E.GL.run rfl rfl rfl (E.Runs.assign rfl rfl) ?_
    refine E.GL.done ?_
    refine E.QG.code ?_
    refine E.CG.ret ?_
    exact E.QG.result rfl rfl ⟨by rw [bool_no hb (by omega)], L⟩

set_option maxRecDepth 100000 in
set_option maxHeartbeats 8000000 in

theorem far_calls (ps : List Int) (qs : List S45) (A B : Option Addr) (c d : Nat) (w : World) (r : Bool) (hP : Kd.C kI w A ps.length ps) (hQ : Kd.C k45 w B qs.length qs) (hb : r = true ↔ farH ps qs) :
    Calls Try.prog 19 #[hv ps qs A B c d] w fun e w' => e = .returned (.bool r) ∧ Below w.heap.size w w' := by
  have hu3 := Try.underlying3
  have hu22 := Try.underlying22
  have hu23 := Try.underlying23
  have hu25 := Try.underlying25
  obtain ⟨z3, o3⟩ := info_some info3s (by decide)
  obtain ⟨z22, o22⟩ := info_some info22s (by decide)
  obtain ⟨z23, o23⟩ := info_some info23s (by decide)
  obtain ⟨z25, o25⟩ := info_some info25s (by decide)
  refine E.enter (N := 27) Try.func19 rfl Try.ntmps19 (args := [hv ps qs A B c d]) (by simp) ?_
  have L := Below.refl w.heap.size w
  refine E.CG.seq ?_
  refine E.CG.list ?_
  refine E.GL.st rfl rfl rfl (E.ST.box rfl rfl fun g1 w1 e1 b1 l1 => ?_)
  have h1_L : w.heap.size ≤ g1 := by rw [e1]; exact L.size
  replace L := below_step L l1
  refine E.GL.run rfl rfl rfl (E.Runs.assign rfl rfl) ?_
  refine E.GL.done ?_
  refine E.QG.code ?_
  refine E.CG.seq ?_
  refine E.CG.list ?_
  refine E.GL.run rfl rfl rfl (E.Runs.loads (cs := [.slice A ps.length c, .slice B qs.length d]) rfl rfl hu25 rfl info25s (blk_cells b1)) ?_
  by_cases h4 : big ps qs
  · refine E.GL.st rfl rfl rfl (E.ST.call rfl ent11 (E.evc rfl E.evn) ((huge_calls ps qs A B c d _ true (iff_of_true rfl h4)).mono ?_))
    rintro e w4 ⟨rfl, l4⟩
    refine ⟨_, rfl, ?_⟩
    replace b1 := blk_below b1 l4
    replace L := below_step L l4
    refine E.GL.run rfl rfl rfl (E.Runs.move rfl rfl) ?_
    refine E.GL.skip rfl rfl rfl ?_
    refine E.GL.skip rfl rfl rfl ?_
    refine E.GL.skip rfl rfl rfl ?_
    refine E.GL.skip rfl rfl rfl ?_
    refine E.GL.skip rfl rfl rfl ?_
    refine E.GL.skip rfl rfl rfl ?_
    refine E.GL.skip rfl rfl rfl ?_
    refine E.GL.skip rfl rfl rfl ?_
    refine E.GL.skip rfl rfl rfl ?_
    refine E.GL.skip rfl rfl rfl ?_
    refine E.GL.skip rfl rfl rfl ?_
    refine E.GL.skip rfl rfl rfl ?_
    refine E.GL.skip rfl rfl rfl ?_
    refine E.GL.skip rfl rfl rfl ?_
    refine E.GL.skip rfl rfl rfl ?_
    refine E.GL.skip rfl rfl rfl ?_
    refine E.GL.skip rfl rfl rfl ?_
    refine E.GL.skip rfl rfl rfl ?_
    refine E.GL.skip rfl rfl rfl ?_
    refine E.GL.skip rfl rfl rfl ?_
    refine E.GL.run rfl rfl rfl (E.Runs.pick_t rfl rfl rfl) ?_
    refine E.GL.run rfl rfl rfl (E.Runs.assign rfl rfl) ?_
    refine E.GL.done ?_
    refine E.QG.code ?_
    refine E.CG.ret ?_
    exact E.QG.result rfl rfl ⟨by rw [hb.mpr (.inl h4)], L⟩
  · refine E.GL.st rfl rfl rfl (E.ST.call rfl ent11 (E.evc rfl E.evn) ((huge_calls ps qs A B c d _ false (iff_of_false Bool.false_ne_true h4)).mono ?_))
    rintro e w4 ⟨rfl, l4⟩
    refine ⟨_, rfl, ?_⟩
    replace b1 := blk_below b1 l4
    replace L := below_step L l4
    refine E.GL.run rfl rfl rfl (E.Runs.move rfl rfl) ?_
    refine E.GL.run rfl rfl rfl (E.Runs.loads (cs := [.slice A ps.length c, .slice B qs.length d]) rfl rfl hu25 rfl info25s (blk_cells b1)) ?_
    refine E.GL.st rfl rfl rfl (E.ST.call rfl ent15 (E.evc rfl E.evn) ((check15 ps qs A B c d _ (Kd.C_below hP L) (Kd.C_below hQ L) (by have := not_big h4; omega) (by have := not_big h4; omega)).mono ?_))
    rintro e w7 ⟨rfl, l7⟩
    refine ⟨_, rfl, ?_⟩
    replace b1 := blk_below b1 l7
    replace L := below_step L l7
    refine E.GL.cmp rfl rfl rfl (fun _ h => (E.Runs.eql rfl rfl rfl h)) (fun h8 => ?_) (fun h8 => ?_)
    · have hH : HOk ps qs := checkE_ok.mp h8
      refine E.GL.run rfl rfl rfl (E.Runs.move rfl rfl) ?_
      refine E.GL.run rfl rfl rfl (E.Runs.fieldAddr rfl rfl hu25 rfl (by assumption) rfl) ?_
      refine E.GL.run rfl rfl rfl (E.Runs.load1 rfl rfl hu22 rfl (by first | assumption | exact E.blkc (by assumption) rfl | exact pw_cell_below L (by assumption))) ?_
      refine E.GL.run rfl rfl rfl (E.Runs.len rfl rfl hu22) ?_
      refine E.GL.cmp rfl rfl rfl (fun _ h => (E.Runs.gtr rfl rfl rfl h)) (fun h13 => ?_) (fun h13 => ?_)
      · refine E.GL.run rfl rfl rfl (E.Runs.move rfl rfl) ?_
        refine E.GL.skip rfl rfl rfl ?_
        refine E.GL.skip rfl rfl rfl ?_
        refine E.GL.skip rfl rfl rfl ?_
        refine E.GL.skip rfl rfl rfl ?_
        refine E.GL.run rfl rfl rfl (E.Runs.pick_t rfl rfl rfl) ?_
        refine E.GL.run rfl rfl rfl (E.Runs.move rfl rfl) ?_
        refine E.GL.skip rfl rfl rfl ?_
        refine E.GL.skip rfl rfl rfl ?_
        refine E.GL.skip rfl rfl rfl ?_
        refine E.GL.run rfl rfl rfl (E.Runs.pick_t rfl rfl rfl) ?_
        refine E.GL.run rfl rfl rfl (E.Runs.pick_t rfl rfl rfl) ?_
        refine E.GL.run rfl rfl rfl (E.Runs.pick_f rfl rfl rfl) ?_
        refine E.GL.run rfl rfl rfl (E.Runs.assign rfl rfl) ?_
        refine E.GL.done ?_
        refine E.QG.code ?_
        refine E.CG.ret ?_
        exact E.QG.result rfl rfl ⟨by rw [hb.mpr (.inr ⟨hH, .inl (by omega)⟩)], L⟩
      · refine E.GL.run rfl rfl rfl (E.Runs.move rfl rfl) ?_
        refine E.GL.run rfl rfl rfl (E.Runs.fieldAddr rfl rfl hu25 rfl (by assumption) rfl) ?_
        refine E.GL.run rfl rfl rfl (E.Runs.load1 rfl rfl hu23 rfl (by first | assumption | exact E.blkc (by assumption) rfl | exact pw_cell_below L (by assumption))) ?_
        refine E.GL.run rfl rfl rfl (E.Runs.len rfl rfl hu23) ?_
        refine E.GL.cmp rfl rfl rfl (fun _ h => (E.Runs.gtr rfl rfl rfl h)) (fun h18 => ?_) (fun h18 => ?_)
        · refine E.GL.run rfl rfl rfl (E.Runs.pick_f rfl rfl rfl) ?_
          refine E.GL.run rfl rfl rfl (E.Runs.move rfl rfl) ?_
          refine E.GL.skip rfl rfl rfl ?_
          refine E.GL.skip rfl rfl rfl ?_
          refine E.GL.skip rfl rfl rfl ?_
          refine E.GL.run rfl rfl rfl (E.Runs.pick_t rfl rfl rfl) ?_
          refine E.GL.run rfl rfl rfl (E.Runs.pick_t rfl rfl rfl) ?_
          refine E.GL.run rfl rfl rfl (E.Runs.pick_f rfl rfl rfl) ?_
          refine E.GL.run rfl rfl rfl (E.Runs.assign rfl rfl) ?_
          refine E.GL.done ?_
          refine E.QG.code ?_
          refine E.CG.ret ?_
          exact E.QG.result rfl rfl ⟨by rw [hb.mpr (.inr ⟨hH, .inr (.inl (by omega))⟩)], L⟩
        · refine E.GL.run rfl rfl rfl (E.Runs.pick_f rfl rfl rfl) ?_
          refine E.GL.run rfl rfl rfl (E.Runs.move rfl rfl) ?_
          refine E.GL.run rfl rfl rfl (E.Runs.loads (cs := [.slice A ps.length c, .slice B qs.length d]) rfl rfl hu25 rfl info25s (blk_cells b1)) ?_
          refine E.GL.st rfl rfl rfl (E.ST.call rfl ent29 (E.evc rfl E.evn) ((all_calls ps qs A B c d _ (Kd.C_below hP L) hH.p (by have := not_big h4; omega)).mono ?_))
          rintro e w22 ⟨rfl, l22⟩
          refine ⟨_, rfl, ?_⟩
          replace b1 := blk_below b1 l22
          replace L := below_step L l22
          refine E.GL.cmp rfl rfl rfl (fun _ h => (E.Runs.gtr rfl rfl rfl h)) (fun h23 => ?_) (fun h23 => ?_)
          · refine E.GL.run rfl rfl rfl (E.Runs.pick_f rfl rfl rfl) ?_
            refine E.GL.run rfl rfl rfl (E.Runs.pick_t rfl rfl rfl) ?_
            refine E.GL.run rfl rfl rfl (E.Runs.pick_f rfl rfl rfl) ?_
            refine E.GL.run rfl rfl rfl (E.Runs.assign rfl rfl) ?_
            refine E.GL.done ?_
            refine E.QG.code ?_
            refine E.CG.ret ?_
            exact E.QG.result rfl rfl ⟨by rw [hb.mpr (.inr ⟨hH, .inr (.inr (by omega))⟩)], L⟩
          · refine E.GL.run rfl rfl rfl (E.Runs.pick_f rfl rfl rfl) ?_
            refine E.GL.run rfl rfl rfl (E.Runs.pick_t rfl rfl rfl) ?_
            refine E.GL.run rfl rfl rfl (E.Runs.pick_f rfl rfl rfl) ?_
            refine E.GL.run rfl rfl rfl (E.Runs.assign rfl rfl) ?_
            refine E.GL.done ?_
            refine E.QG.code ?_
            refine E.CG.ret ?_
            exact E.QG.result rfl rfl ⟨by rw [bool_no hb (fun k => k.elim h4 (fun k => by have := k.2; omega))], L⟩
    · have hH : ¬ HOk ps qs := fun k => h8 (checkE_yes k)
      refine E.GL.run rfl rfl rfl (E.Runs.move rfl rfl) ?_
      refine E.GL.skip rfl rfl rfl ?_
      refine E.GL.skip rfl rfl rfl ?_
      refine E.GL.skip rfl rfl rfl ?_
      refine E.GL.skip rfl rfl rfl ?_
      refine E.GL.skip rfl rfl rfl ?_
      refine E.GL.skip rfl rfl rfl ?_
      refine E.GL.skip rfl rfl rfl ?_
      refine E.GL.skip rfl rfl rfl ?_
      refine E.GL.skip rfl rfl rfl ?_
      refine E.GL.skip rfl rfl rfl ?_
      refine E.GL.skip rfl rfl rfl ?_
      refine E.GL.skip rfl rfl rfl ?_
      refine E.GL.skip rfl rfl rfl ?_
      refine E.GL.skip rfl rfl rfl ?_
      refine E.GL.skip rfl rfl rfl ?_
      refine E.GL.run rfl rfl rfl (E.Runs.pick_f rfl rfl rfl) ?_
      refine E.GL.run rfl rfl rfl (E.Runs.pick_f rfl rfl rfl) ?_
      refine E.GL.run rfl rfl rfl (E.Runs.assign rfl rfl) ?_
      refine E.GL.done ?_
      refine E.QG.code ?_
      refine E.CG.ret ?_
      exact E.QG.result rfl rfl ⟨by rw [bool_no hb (fun k => k.elim h4 (fun k => hH k.1))], L⟩

set_option maxRecDepth 100000 in
set_option maxHeartbeats 8000000 in

theorem ready_calls (ps : List Int) (qs : List S45) (A B : Option Addr) (c d : Nat) (w : World) (r : Bool) (hP : Kd.C kI w A ps.length ps) (hQ : Kd.C k45 w B qs.length qs) (m : Int) (hb : r = true ↔ ready ps qs m) :
    Calls Try.prog 27 #[hv ps qs A B c d, .int .i64 m] w fun e w' => e = .returned (.bool r) ∧ Below w.heap.size w w' := by
  have hu3 := Try.underlying3
  have hu25 := Try.underlying25
  obtain ⟨z3, o3⟩ := info_some info3s (by decide)
  obtain ⟨z25, o25⟩ := info_some info25s (by decide)
  refine E.enter (N := 26) Try.func27 rfl Try.ntmps27 (args := [hv ps qs A B c d, .int .i64 m]) (by simp) ?_
  have L := Below.refl w.heap.size w
  refine E.CG.seq ?_
  refine E.CG.list ?_
  refine E.GL.st rfl rfl rfl (E.ST.box rfl rfl fun g2 w2 e2 b2 l2 => ?_)
  have h2_L : w.heap.size ≤ g2 := by rw [e2]; exact L.size
  replace L := below_step L l2
  refine E.GL.run rfl rfl rfl (E.Runs.assign rfl rfl) ?_
  refine E.GL.done ?_
  refine E.QG.code ?_
  refine E.CG.seq ?_
  refine E.CG.list ?_
  refine E.GL.run rfl rfl rfl (E.Runs.loads (cs := [.slice A ps.length c, .slice B qs.length d]) rfl rfl hu25 rfl info25s (blk_cells b2)) ?_
  by_cases h6 : farH ps qs
  · refine E.GL.st rfl rfl rfl (E.ST.call rfl ent19 (E.evc rfl E.evn) ((far_calls ps qs A B c d _ true (Kd.C_below hP L) (Kd.C_below hQ L) (iff_of_true rfl h6)).mono ?_))
    rintro e w6 ⟨rfl, l6⟩
    refine ⟨_, rfl, ?_⟩
    replace b2 := blk_below b2 l6
    replace L := below_step L l6
    refine E.GL.run rfl rfl rfl (E.Runs.not rfl rfl) ?_
    refine E.GL.run rfl rfl rfl (E.Runs.move rfl rfl) ?_
    refine E.GL.skip rfl rfl rfl ?_
    refine E.GL.skip rfl rfl rfl ?_
    refine E.GL.skip rfl rfl rfl ?_
    refine E.GL.run rfl rfl rfl (E.Runs.pick_f rfl rfl rfl) ?_
    refine E.GL.run rfl rfl rfl (E.Runs.move rfl rfl) ?_
    refine E.GL.skip rfl rfl rfl ?_
    refine E.GL.skip rfl rfl rfl ?_
    refine E.GL.skip rfl rfl rfl ?_
    refine E.GL.run rfl rfl rfl (E.Runs.pick_f rfl rfl rfl) ?_
    refine E.GL.run rfl rfl rfl (E.Runs.move rfl rfl) ?_
    refine E.GL.skip rfl rfl rfl ?_
    refine E.GL.skip rfl rfl rfl ?_
    refine E.GL.run rfl rfl rfl (E.Runs.pick_f rfl rfl rfl) ?_
    refine E.GL.run rfl rfl rfl (E.Runs.move rfl rfl) ?_
    refine E.GL.skip rfl rfl rfl ?_
    refine E.GL.skip rfl rfl rfl ?_
    refine E.GL.run rfl rfl rfl (E.Runs.pick_f rfl rfl rfl) ?_
    refine E.GL.run rfl rfl rfl (E.Runs.assign rfl rfl) ?_
    refine E.GL.done ?_
    refine E.QG.code ?_
    refine E.CG.ret ?_
    exact E.QG.result rfl rfl ⟨by rw [bool_no hb (fun k => k.1 h6)], L⟩
  · refine E.GL.st rfl rfl rfl (E.ST.call rfl ent19 (E.evc rfl E.evn) ((far_calls ps qs A B c d _ false (Kd.C_below hP L) (Kd.C_below hQ L) (iff_of_false Bool.false_ne_true h6)).mono ?_))
    rintro e w6 ⟨rfl, l6⟩
    refine ⟨_, rfl, ?_⟩
    replace b2 := blk_below b2 l6
    replace L := below_step L l6
    refine E.GL.run rfl rfl rfl (E.Runs.not rfl rfl) ?_
    refine E.GL.run rfl rfl rfl (E.Runs.move rfl rfl) ?_
    refine E.GL.run rfl rfl rfl (E.Runs.move rfl rfl) ?_
    by_cases h10 : late m
    · refine E.GL.st rfl rfl rfl (E.ST.call rfl ent20 (E.evc rfl E.evn) ((late_calls m _ true (iff_of_true rfl h10)).mono ?_))
      rintro e w10 ⟨rfl, l10⟩
      refine ⟨_, rfl, ?_⟩
      replace b2 := blk_below b2 l10
      replace L := below_step L l10
      refine E.GL.run rfl rfl rfl (E.Runs.not rfl rfl) ?_
      refine E.GL.run rfl rfl rfl (E.Runs.pick_t rfl rfl rfl) ?_
      refine E.GL.run rfl rfl rfl (E.Runs.move rfl rfl) ?_
      refine E.GL.skip rfl rfl rfl ?_
      refine E.GL.skip rfl rfl rfl ?_
      refine E.GL.skip rfl rfl rfl ?_
      refine E.GL.run rfl rfl rfl (E.Runs.pick_f rfl rfl rfl) ?_
      refine E.GL.run rfl rfl rfl (E.Runs.move rfl rfl) ?_
      refine E.GL.skip rfl rfl rfl ?_
      refine E.GL.skip rfl rfl rfl ?_
      refine E.GL.run rfl rfl rfl (E.Runs.pick_f rfl rfl rfl) ?_
      refine E.GL.run rfl rfl rfl (E.Runs.move rfl rfl) ?_
      refine E.GL.skip rfl rfl rfl ?_
      refine E.GL.skip rfl rfl rfl ?_
      refine E.GL.run rfl rfl rfl (E.Runs.pick_f rfl rfl rfl) ?_
      refine E.GL.run rfl rfl rfl (E.Runs.assign rfl rfl) ?_
      refine E.GL.done ?_
      refine E.QG.code ?_
      refine E.CG.ret ?_
      exact E.QG.result rfl rfl ⟨by rw [bool_no hb (fun k => k.2.1 h10)], L⟩
    · refine E.GL.st rfl rfl rfl (E.ST.call rfl ent20 (E.evc rfl E.evn) ((late_calls m _ false (iff_of_false Bool.false_ne_true h10)).mono ?_))
      rintro e w10 ⟨rfl, l10⟩
      refine ⟨_, rfl, ?_⟩
      replace b2 := blk_below b2 l10
      replace L := below_step L l10
      refine E.GL.run rfl rfl rfl (E.Runs.not rfl rfl) ?_
      refine E.GL.run rfl rfl rfl (E.Runs.pick_t rfl rfl rfl) ?_
      refine E.GL.run rfl rfl rfl (E.Runs.move rfl rfl) ?_
      refine E.GL.run rfl rfl rfl (E.Runs.loads (cs := [.slice A ps.length c, .slice B qs.length d]) rfl rfl hu25 rfl info25s (blk_cells b2)) ?_
      refine E.GL.st rfl rfl rfl (E.ST.call rfl ent15 (E.evc rfl E.evn) ((check15 ps qs A B c d _ (Kd.C_below hP L) (Kd.C_below hQ L) (by have := not_far h6; omega) (by have := not_far h6; omega)).mono ?_))
      rintro e w15 ⟨rfl, l15⟩
      refine ⟨_, rfl, ?_⟩
      replace b2 := blk_below b2 l15
      replace L := below_step L l15
      refine E.GL.cmp rfl rfl rfl (fun _ h => (E.Runs.eql rfl rfl rfl h)) (fun h16 => ?_) (fun h16 => ?_)
      · have hH : HOk ps qs := checkE_ok.mp h16
        refine E.GL.run rfl rfl rfl (E.Runs.pick_t rfl rfl rfl) ?_
        refine E.GL.run rfl rfl rfl (E.Runs.move rfl rfl) ?_
        refine E.GL.run rfl rfl rfl (E.Runs.move rfl rfl) ?_
        refine E.GL.cmp rfl rfl rfl (fun _ h => (E.Runs.geq rfl rfl rfl h)) (fun h20 => ?_) (fun h20 => ?_)
        · refine E.GL.run rfl rfl rfl (E.Runs.pick_t rfl rfl rfl) ?_
          refine E.GL.run rfl rfl rfl (E.Runs.move rfl rfl) ?_
          refine E.GL.run rfl rfl rfl (E.Runs.move rfl rfl) ?_
          refine E.GL.cmp rfl rfl rfl (fun _ h => (E.Runs.leq rfl rfl rfl h)) (fun h24 => ?_) (fun h24 => ?_)
          · refine E.GL.run rfl rfl rfl (E.Runs.pick_t rfl rfl rfl) ?_
            refine E.GL.run rfl rfl rfl (E.Runs.assign rfl rfl) ?_
            refine E.GL.done ?_
            refine E.QG.code ?_
            refine E.CG.ret ?_
            exact E.QG.result rfl rfl ⟨by rw [hb.mpr (⟨h6, h10, hH, by omega, by omega⟩)], L⟩
          · refine E.GL.run rfl rfl rfl (E.Runs.pick_t rfl rfl rfl) ?_
            refine E.GL.run rfl rfl rfl (E.Runs.assign rfl rfl) ?_
            refine E.GL.done ?_
            refine E.QG.code ?_
            refine E.CG.ret ?_
            exact E.QG.result rfl rfl ⟨by rw [bool_no hb (fun k => by have := k.2.2.2; omega)], L⟩
        · refine E.GL.run rfl rfl rfl (E.Runs.pick_t rfl rfl rfl) ?_
          refine E.GL.run rfl rfl rfl (E.Runs.move rfl rfl) ?_
          refine E.GL.skip rfl rfl rfl ?_
          refine E.GL.skip rfl rfl rfl ?_
          refine E.GL.run rfl rfl rfl (E.Runs.pick_f rfl rfl rfl) ?_
          refine E.GL.run rfl rfl rfl (E.Runs.assign rfl rfl) ?_
          refine E.GL.done ?_
          refine E.QG.code ?_
          refine E.CG.ret ?_
          exact E.QG.result rfl rfl ⟨by rw [bool_no hb (fun k => by have := k.2.2.2; omega)], L⟩
      · have hH : ¬ HOk ps qs := fun k => h16 (checkE_yes k)
        refine E.GL.run rfl rfl rfl (E.Runs.pick_t rfl rfl rfl) ?_
        refine E.GL.run rfl rfl rfl (E.Runs.move rfl rfl) ?_
        refine E.GL.skip rfl rfl rfl ?_
        refine E.GL.skip rfl rfl rfl ?_
        refine E.GL.run rfl rfl rfl (E.Runs.pick_f rfl rfl rfl) ?_
        refine E.GL.run rfl rfl rfl (E.Runs.move rfl rfl) ?_
        refine E.GL.skip rfl rfl rfl ?_
        refine E.GL.skip rfl rfl rfl ?_
        refine E.GL.run rfl rfl rfl (E.Runs.pick_f rfl rfl rfl) ?_
        refine E.GL.run rfl rfl rfl (E.Runs.assign rfl rfl) ?_
        refine E.GL.done ?_
        refine E.QG.code ?_
        refine E.CG.ret ?_
        exact E.QG.result rfl rfl ⟨by rw [bool_no hb (fun k => hH k.2.2.1)], L⟩

end Go.Proofs.Ytmnjlnkfihklgaa.T
namespace Go.Proofs.Ytmnjlnkfihklgaa.T
open Go.RowKit Go.Proofs.YtmnjlnkfihklgaaW.PrintWords Go.Proofs.YtmnjlnkfihklgaaW.PrintMore
open Go.Proofs.Ytmnjlnkfihklgaa.P
set_option linter.unusedVariables false
set_option linter.unusedSimpArgs false

/-- A row of structs written out, in a block of ours. -/
theorem flat_get {α : Type} (enc : α → List Value) (sz : Nat) (hsz : ∀ x, (enc x).length = sz) : ∀ (l : List α) (j i : Nat) (p : α), l[j]? = some p → i < sz → (l.flatMap enc)[j * sz + i]? = (enc p)[i]?
  | [], j, i, p, h, _ => by simp at h
  | x :: l, 0, i, p, h, hi => by
    obtain rfl : x = p := by simpa using h
    rw [List.flatMap_cons, Nat.zero_mul, Nat.zero_add, List.getElem?_append_left (by rw [hsz]; exact hi)]
  | x :: l, j + 1, i, p, h, hi => by
    rw [List.flatMap_cons, List.getElem?_append_right (by rw [hsz, Nat.add_mul]; omega), hsz, show (j + 1) * sz + i - sz = j * sz + i by rw [Nat.add_mul]; omega]
    exact flat_get enc sz hsz l j i p (by simpa using h) hi
theorem C_flat {α : Type} (d : Kd α) (enc : α → List Value) (hsz : ∀ x, (enc x).length = d.sz) (hK : ∀ (w : World) x, d.K w x (enc x)) {w : World} {g e : Nat} (l : List α) (hl : l.length ≤ 1000000) (hb : w.heap[g]? = some (.cells (l.flatMap enc).toArray e (0, 0))) : Kd.C d w (some ⟨g, 0, none⟩) l.length l := by
  refine ⟨rfl, by omega, fun _ => ⟨_, rfl, ?_⟩⟩
  intro j p hj
  refine ⟨enc p, hsz p, hK w p, fun i u hu => ?_⟩
  have hi : i < d.sz := by rw [← hsz p]; exact (List.getElem?_eq_some_iff.1 hu).1
  rw [Addr.add_mid, Nat.zero_add, blk_cell hb]
  rw [List.getElem?_toArray, flat_get enc d.sz hsz l j i p hj hi]
  exact hu
def four45 (x : S45) : List Value := [.int .i64 x.f0, .int .i64 x.f1, .int .i64 x.f2, .int .i64 x.f3]
def three35 (x : S35) : List Value := [.int .i64 x.f0, .int .i64 x.f1, .int .i64 x.f2]
theorem C_45 {w : World} {g : Nat} (l : List S45) (hl : l.length ≤ 1000000) (hb : w.heap[g]? = some (.cells (l.flatMap four45).toArray 45 (0, 0))) : Kd.C k45 w (some ⟨g, 0, none⟩) l.length l := C_flat k45 four45 (fun _ => rfl) (fun w x => k45_mk w x) l hl hb
theorem C_35 {w : World} {g : Nat} (l : List S35) (hl : l.length ≤ 1000000) (hb : w.heap[g]? = some (.cells (l.flatMap three35).toArray 35 (0, 0))) : Kd.C k35 w (some ⟨g, 0, none⟩) l.length l := C_flat k35 three35 (fun _ => rfl) (fun w x => k35_mk w x) l hl hb
set_option maxRecDepth 100000 in
theorem lit22_2 (W : World) : (Instr.buildSlice 22 2 #[(0, .int .i64 5), (1, .int .i64 4)]).run Try.prog W = .ok (.slice (some ⟨W.heap.size, 0, none⟩) 2 2) (W.alloc (.cells #[.int .i64 5, .int .i64 4] 3 (0, 0))) := by
  have hu22 := Try.underlying22
  go_simp
set_option maxRecDepth 100000 in
theorem lit22_3 (W : World) : (Instr.buildSlice 22 3 #[(0, .int .i64 0), (1, .int .i64 1), (2, .int .i64 2)]).run Try.prog W = .ok (.slice (some ⟨W.heap.size, 0, none⟩) 3 3) (W.alloc (.cells #[.int .i64 0, .int .i64 1, .int .i64 2] 3 (0, 0))) := by
  have hu22 := Try.underlying22
  go_simp
set_option maxRecDepth 100000 in
theorem lit23_4 (W : World) : (Instr.buildSlice 23 4 #[(0, .agg #[.int .i64 0, .int .i64 1, .int .i64 2, .int .i64 1]), (1, .agg #[.int .i64 0, .int .i64 (-1), .int .i64 1, .int .i64 2]), (2, .agg #[.int .i64 1, .int .i64 (-1), .int .i64 3, .int .i64 1]), (3, .agg #[.int .i64 1, .int .i64 0, .int .i64 1, .int .i64 1])]).run Try.prog W = .ok (.slice (some ⟨W.heap.size, 0, none⟩) 4 4) (W.alloc (.cells (eQ.flatMap four45).toArray 45 (0, 0))) := by
  have hu23 := Try.underlying23
  go_simp
  rfl
set_option maxRecDepth 100000 in
theorem lit26_4 (W : World) : (Instr.buildSlice 26 4 #[(0, .agg #[.int .i64 0, .int .i64 0, .int .i64 2]), (1, .agg #[.int .i64 0, .int .i64 1, .int .i64 1]), (2, .agg #[.int .i64 0, .int .i64 2, .int .i64 3]), (3, .agg #[.int .i64 1, .int .i64 2, .int .i64 3])]).run Try.prog W = .ok (.slice (some ⟨W.heap.size, 0, none⟩) 4 4) (W.alloc (.cells (eL.flatMap three35).toArray 35 (0, 0))) := by
  have hu26 := Try.underlying26
  go_simp
  rfl
set_option maxRecDepth 100000 in
theorem build45 (a b c d : Int) (W : World) : (Instr.build 45 #[(0, .int .i64 a), (1, .int .i64 b), (2, .int .i64 c), (3, .int .i64 d)]).run Try.prog W = .ok (.agg #[.int .i64 a, .int .i64 b, .int .i64 c, .int .i64 d]) W := by
  have hu3 := Try.underlying3
  have hu45 := Try.underlying45
  go_simp
set_option maxRecDepth 100000 in
theorem build35a (c : Int) (W : World) : (Instr.build 35 #[(2, .int .i64 c)]).run Try.prog W = .ok (.agg #[.int .i64 0, .int .i64 0, .int .i64 c]) W := by
  have hu3 := Try.underlying3
  have hu35 := Try.underlying35
  go_simp
set_option maxRecDepth 100000 in
theorem build35b (b c : Int) (W : World) : (Instr.build 35 #[(1, .int .i64 b), (2, .int .i64 c)]).run Try.prog W = .ok (.agg #[.int .i64 0, .int .i64 b, .int .i64 c]) W := by
  have hu3 := Try.underlying3
  have hu35 := Try.underlying35
  go_simp
set_option maxRecDepth 100000 in
theorem build35c (a b c : Int) (W : World) : (Instr.build 35 #[(0, .int .i64 a), (1, .int .i64 b), (2, .int .i64 c)]).run Try.prog W = .ok (.agg #[.int .i64 a, .int .i64 b, .int .i64 c]) W := by
  have hu3 := Try.underlying3
  have hu35 := Try.underlying35
  go_simp
set_option maxRecDepth 100000 in
set_option maxHeartbeats 8000000 in

theorem example_calls (w : World) :
    Calls Try.prog 37 #[] w fun e w' => ∃ A B c d, e = .returned (hv eP eQ A B c d) ∧ Kd.C kI w' A eP.length eP ∧ Kd.C k45 w' B eQ.length eQ ∧ Below w.heap.size w w' := by
  have hu25 := Try.underlying25
  refine E.enter (N := 8) Try.func37 rfl Try.ntmps37 (args := []) (by simp) ?_
  have L := Below.refl w.heap.size w
  refine E.CG.seq ?_
  refine E.CG.list ?_
  refine E.GL.st rfl rfl rfl (E.ST.alloc rfl info25z fun g0 w0 e0 b0 l0 => ?_)
  have h0_L : w.heap.size ≤ g0 := by rw [e0]; exact L.size
  replace L := below_step L l0
  refine E.GL.done ?_
  refine E.QG.code ?_
  refine E.CG.seq ?_
  refine E.CG.list ?_
  refine E.GL.st rfl rfl rfl (E.ST.litB (cs := (([5, 4] : List Int).map (Value.int .i64)).toArray) rfl (E.epc rfl (E.epc rfl E.epn)) lit22_2 fun g1 w1 e1 b1 l1 => ?_)
  have h1_L : w.heap.size ≤ g1 := by rw [e1]; exact L.size
  have n1_b0 : g0 ≠ g1 := by have := blk_lt b0; omega
  replace b0 := blk_below b0 l1
  replace L := below_step L l1
  refine E.GL.run rfl rfl rfl (E.Runs.build rfl (E.epc rfl (E.epc rfl (E.epc rfl (E.epc rfl E.epn)))) (build45 _ _ _ _)) ?_
  refine E.GL.run rfl rfl rfl (E.Runs.build rfl (E.epc rfl (E.epc rfl (E.epc rfl (E.epc rfl E.epn)))) (build45 _ _ _ _)) ?_
  refine E.GL.run rfl rfl rfl (E.Runs.build rfl (E.epc rfl (E.epc rfl (E.epc rfl (E.epc rfl E.epn)))) (build45 _ _ _ _)) ?_
  refine E.GL.run rfl rfl rfl (E.Runs.build rfl (E.epc rfl (E.epc rfl (E.epc rfl (E.epc rfl E.epn)))) (build45 _ _ _ _)) ?_
  refine E.GL.st rfl rfl rfl (E.ST.litB (cs := (eQ.flatMap four45).toArray) rfl (E.epc rfl (E.epc rfl (E.epc rfl (E.epc rfl E.epn)))) lit23_4 fun g6 w6 e6 b6 l6 => ?_)
  have h6_L : w.heap.size ≤ g6 := by rw [e6]; exact L.size
  have n6_b0 : g0 ≠ g6 := by have := blk_lt b0; omega
  have n6_b1 : g1 ≠ g6 := by have := blk_lt b1; omega
  replace b0 := blk_below b0 l6
  replace b1 := blk_below b1 l6
  replace L := below_step L l6
  refine E.GL.run rfl rfl rfl (E.Runs.build rfl (E.epc rfl (E.epc rfl E.epn)) (build25 _ _ _ _ _ _)) ?_
  refine E.GL.store_whole rfl rfl rfl rfl rfl b0 rfl info25s (slices_one _ _ _ _ _ _) fun wS1_7 c0 lS1_7 => ?_
  replace b1 := blk_grown b1 lS1_7 (E.nes (by first | assumption | exact Ne.symm (by assumption)))
  replace b6 := blk_grown b6 lS1_7 (E.nes (by first | assumption | exact Ne.symm (by assumption)))
  replace L := E.below_own L h0_L lS1_7
  replace b0 := c0
  clear c0
  refine E.GL.done ?_
  refine E.QG.code ?_
  refine E.CG.ret ?_
  exact E.QG.result_c rfl rfl b0 hu25 rfl info25s ⟨_, _, _, _, rfl, C_nums [5, 4] b1 (by decide), C_45 eQ (by decide) b6, L⟩

set_option maxRecDepth 100000 in
set_option maxHeartbeats 8000000 in

theorem works_calls (w : World) :
    Calls Try.prog 12 #[] w fun e w' => e = .returned (.bool true) ∧ Below w.heap.size w w' := by
  have hu3 := Try.underlying3
  have hu22 := Try.underlying22
  have hu25 := Try.underlying25
  have hu26 := Try.underlying26
  refine E.enter (N := 67) Try.func12 rfl Try.ntmps12 (args := []) (by simp) ?_
  have L := Below.refl w.heap.size w
  refine E.CG.seq ?_
  refine E.CG.list ?_
  refine E.GL.run rfl rfl rfl (E.Runs.assign rfl rfl) ?_
  refine E.GL.done ?_
  refine E.QG.code ?_
  refine E.CG.seq ?_
  refine E.CG.list ?_
  refine E.GL.st rfl rfl rfl (E.ST.call rfl ent37 E.evn ((example_calls _).mono ?_))
  rintro e w10 ⟨A, B, c, d, rfl, hC, hD, l10⟩
  refine ⟨_, rfl, ?_⟩
  replace L := below_step L l10
  have lo := Below.refl w10.heap.size w10
  refine E.GL.st rfl rfl rfl (E.ST.alloc rfl info25z fun g1 w1 e1 b1 l1 => ?_)
  have h1_L : w.heap.size ≤ g1 := by rw [e1]; exact L.size
  have h1_lo : w10.heap.size ≤ g1 := by rw [e1]; exact lo.size
  replace L := below_step L l1
  replace lo := below_step lo l1
  refine E.GL.store_whole rfl rfl rfl rfl rfl b1 rfl info25s (slices_one _ _ _ _ _ _) fun wS1_2 c1 lS1_2 => ?_
  replace L := E.below_own L h1_L lS1_2
  replace lo := E.below_own lo h1_lo lS1_2
  replace b1 := c1
  clear c1
  refine E.GL.done ?_
  refine E.QG.code ?_
  refine E.CG.seq ?_
  refine E.CG.list ?_
  refine E.GL.run rfl rfl rfl (E.Runs.loads (cs := [.slice A 2 c, .slice B 4 d]) rfl rfl hu25 rfl info25s (blk_cells b1)) ?_
  refine E.GL.st rfl rfl rfl (E.ST.call rfl ent28 (E.evc rfl (E.evc rfl E.evn)) ((most_calls eP eQ A B c d _ (Kd.C_below hC lo) (Kd.C_below hD lo) (by decide) (by decide) 2).mono ?_))
  rintro e w13 ⟨N13, rfl, hN13, l13⟩
  refine ⟨_, rfl, ?_⟩
  replace b1 := blk_below b1 l13
  replace L := below_step L l13
  replace lo := below_step lo l13
  obtain rfl := eMostR hN13
  rw [eChk 2 (by decide)]
  refine E.GL.run rfl rfl rfl (E.Runs.move rfl rfl) ?_
  refine E.GL.run rfl rfl rfl (E.Runs.extract rfl rfl rfl) ?_
  refine E.GL.run rfl rfl rfl (E.Runs.extract rfl rfl rfl) ?_
  refine E.GL.run rfl rfl rfl (E.Runs.assign rfl rfl) ?_
  refine E.GL.run rfl rfl rfl (E.Runs.assign rfl rfl) ?_
  refine E.GL.done ?_
  refine E.QG.code ?_
  refine E.CG.seq ?_
  refine E.CG.list ?_
  refine E.GL.run rfl rfl rfl (E.Runs.loads (cs := [.slice A 2 c, .slice B 4 d]) rfl rfl hu25 rfl info25s (blk_cells b1)) ?_
  refine E.GL.st rfl rfl rfl (E.ST.call rfl ent21 (E.evc rfl E.evn) ((empty_calls eP eQ A B c d _ (Kd.C_below hC lo) (Kd.C_below hD lo) (by decide) (by decide)).mono ?_))
  rintro e w18 ⟨N18, E18, rfl, hE18, l18⟩
  refine ⟨_, rfl, ?_⟩
  replace b1 := blk_below b1 l18
  replace L := below_step L l18
  replace lo := below_step lo l18
  obtain ⟨rfl, rfl⟩ := eEmptyR hE18
  refine E.GL.run rfl rfl rfl (E.Runs.move rfl rfl) ?_
  refine E.GL.run rfl rfl rfl (E.Runs.extract rfl rfl rfl) ?_
  refine E.GL.run rfl rfl rfl (E.Runs.extract rfl rfl rfl) ?_
  refine E.GL.run rfl rfl rfl (E.Runs.assign rfl rfl) ?_
  refine E.GL.run rfl rfl rfl (E.Runs.assign rfl rfl) ?_
  refine E.GL.done ?_
  refine E.QG.code ?_
  refine E.CG.seq ?_
  refine E.CG.list ?_
  refine E.GL.run rfl rfl rfl (E.Runs.loads (cs := [.slice A 2 c, .slice B 4 d]) rfl rfl hu25 rfl info25s (blk_cells b1)) ?_
  refine E.GL.st rfl rfl rfl (E.ST.call rfl ent25 (E.evc rfl (E.evc rfl E.evn)) ((needed_calls eP eQ A B c d _ (Kd.C_below hC lo) (Kd.C_below hD lo) (by decide) (by decide) 3).mono ?_))
  rintro e w23 ⟨v23, l23, rfl, R23, hL23, l23⟩
  refine ⟨_, rfl, ?_⟩
  replace b1 := blk_below b1 l23
  replace L := below_step L l23
  replace lo := below_step lo l23
  have lx := Below.refl w23.heap.size w23
  obtain rfl := eNeedR hL23
  rw [eChk 3 (by decide)]
  obtain ⟨A23, c23, hv23⟩ := Kd.R_slice R23
  subst hv23
  obtain ⟨_, _, C23⟩ := Kd.R_reads' R23
  refine E.GL.run rfl rfl rfl (E.Runs.move rfl rfl) ?_
  refine E.GL.run rfl rfl rfl (E.Runs.extract rfl rfl rfl) ?_
  refine E.GL.run rfl rfl rfl (E.Runs.extract rfl rfl rfl) ?_
  refine E.GL.run rfl rfl rfl (E.Runs.assign rfl rfl) ?_
  refine E.GL.run rfl rfl rfl (E.Runs.assign rfl rfl) ?_
  refine E.GL.done ?_
  refine E.QG.code ?_
  refine E.CG.seq ?_
  refine E.CG.list ?_
  refine E.GL.run rfl rfl rfl (E.Runs.loads (cs := [.slice A 2 c, .slice B 4 d]) rfl rfl hu25 rfl info25s (blk_cells b1)) ?_
  refine E.GL.run rfl rfl rfl (E.Runs.build rfl (E.epc rfl E.epn) (build35a _)) ?_
  refine E.GL.run rfl rfl rfl (E.Runs.build rfl (E.epc rfl (E.epc rfl E.epn)) (build35b _ _)) ?_
  refine E.GL.run rfl rfl rfl (E.Runs.build rfl (E.epc rfl (E.epc rfl E.epn)) (build35b _ _)) ?_
  refine E.GL.run rfl rfl rfl (E.Runs.build rfl (E.epc rfl (E.epc rfl (E.epc rfl E.epn))) (build35c _ _ _)) ?_
  refine E.GL.st rfl rfl rfl (E.ST.litB (cs := (eL.flatMap three35).toArray) rfl (E.epc rfl (E.epc rfl (E.epc rfl (E.epc rfl E.epn)))) lit26_4 fun g32 w32 e32 b32 l32 => ?_)
  have h32_L : w.heap.size ≤ g32 := by rw [e32]; exact L.size
  have h32_lo : w10.heap.size ≤ g32 := by rw [e32]; exact lo.size
  have h32_lx : w23.heap.size ≤ g32 := by rw [e32]; exact lx.size
  have n32_b1 : g1 ≠ g32 := by have := blk_lt b1; omega
  replace b1 := blk_below b1 l32
  replace L := below_step L l32
  replace lo := below_step lo l32
  replace lx := below_step lx l32
  refine E.GL.st rfl rfl rfl (E.ST.call rfl ent16 (E.evc rfl (E.evc rfl (E.evc rfl E.evn))) ((goneP_calls eP eQ A B _ c d 4 2 eL _ (Kd.C_below hC lo) (Kd.C_below hD lo) (C_35 eL (by decide) b32) (by decide) (by decide) (by decide)).mono ?_))
  rintro e w33 ⟨N33, E33, rfl, hG33, l33⟩
  refine ⟨_, rfl, ?_⟩
  replace b1 := blk_below b1 l33
  replace b32 := blk_below b32 l33
  replace L := below_step L l33
  replace lo := below_step lo l33
  replace lx := below_step lx l33
  obtain ⟨rfl, rfl⟩ := eGoneR hG33
  refine E.GL.run rfl rfl rfl (E.Runs.move rfl rfl) ?_
  refine E.GL.run rfl rfl rfl (E.Runs.extract rfl rfl rfl) ?_
  refine E.GL.run rfl rfl rfl (E.Runs.extract rfl rfl rfl) ?_
  refine E.GL.run rfl rfl rfl (E.Runs.assign rfl rfl) ?_
  refine E.GL.run rfl rfl rfl (E.Runs.assign rfl rfl) ?_
  refine E.GL.done ?_
  refine E.QG.code ?_
  refine E.CG.seq ?_
  refine E.CG.list ?_
  refine E.GL.run rfl rfl rfl (E.Runs.move rfl rfl) ?_
  refine E.GL.run rfl rfl rfl (E.Runs.eql rfl rfl rfl (decide_eq_true rfl)) ?_
  refine E.GL.run rfl rfl rfl (E.Runs.move rfl rfl) ?_
  refine E.GL.run rfl rfl rfl (E.Runs.move rfl rfl) ?_
  refine E.GL.run rfl rfl rfl (E.Runs.eql rfl rfl rfl (decide_eq_true rfl)) ?_
  refine E.GL.run rfl rfl rfl (E.Runs.pick_t rfl rfl rfl) ?_
  refine E.GL.run rfl rfl rfl (E.Runs.move rfl rfl) ?_
  refine E.GL.run rfl rfl rfl (E.Runs.move rfl rfl) ?_
  refine E.GL.run rfl rfl rfl (E.Runs.eql rfl rfl rfl (decide_eq_true rfl)) ?_
  refine E.GL.run rfl rfl rfl (E.Runs.pick_t rfl rfl rfl) ?_
  refine E.GL.run rfl rfl rfl (E.Runs.move rfl rfl) ?_
  refine E.GL.run rfl rfl rfl (E.Runs.move rfl rfl) ?_
  refine E.GL.run rfl rfl rfl (E.Runs.eql rfl rfl rfl (decide_eq_true rfl)) ?_
  refine E.GL.run rfl rfl rfl (E.Runs.pick_t rfl rfl rfl) ?_
  refine E.GL.run rfl rfl rfl (E.Runs.move rfl rfl) ?_
  refine E.GL.run rfl rfl rfl (E.Runs.move rfl rfl) ?_
  refine E.GL.run rfl rfl rfl (E.Runs.eql rfl rfl rfl (decide_eq_true rfl)) ?_
  refine E.GL.run rfl rfl rfl (E.Runs.pick_t rfl rfl rfl) ?_
  refine E.GL.run rfl rfl rfl (E.Runs.move rfl rfl) ?_
  refine E.GL.run rfl rfl rfl (E.Runs.move rfl rfl) ?_
  refine E.GL.run rfl rfl rfl (E.Runs.eql rfl rfl rfl (decide_eq_true rfl)) ?_
  refine E.GL.run rfl rfl rfl (E.Runs.pick_t rfl rfl rfl) ?_
  refine E.GL.run rfl rfl rfl (E.Runs.move rfl rfl) ?_
  refine E.GL.run rfl rfl rfl (E.Runs.move rfl rfl) ?_
  refine E.GL.st rfl rfl rfl (E.ST.litB (cs := (([0, 1, 2] : List Int).map (Value.int .i64)).toArray) rfl (E.epc rfl (E.epc rfl (E.epc rfl E.epn))) lit22_3 fun g60 w60 e60 b60 l60 => ?_)
  have h60_L : w.heap.size ≤ g60 := by rw [e60]; exact L.size
  have h60_lo : w10.heap.size ≤ g60 := by rw [e60]; exact lo.size
  have h60_lx : w23.heap.size ≤ g60 := by rw [e60]; exact lx.size
  have n60_b1 : g1 ≠ g60 := by have := blk_lt b1; omega
  have n60_b32 : g32 ≠ g60 := by have := blk_lt b32; omega
  replace b1 := blk_below b1 l60
  replace b32 := blk_below b32 l60
  replace L := below_step L l60
  replace lo := below_step lo l60
  replace lx := below_step lx l60
  refine E.GL.st rfl rfl rfl (E.ST.call rfl ent18 (E.evc rfl (E.evc rfl E.evn)) ((same_calls [0, 1, 2] [0, 1, 2] A23 _ c23 3 _ true (by simp) (Kd.C_below C23 lx) (C_nums [0, 1, 2] b60 (by decide)) (by decide)).mono ?_))
  rintro e w61 ⟨rfl, l61⟩
  refine ⟨_, rfl, ?_⟩
  replace b1 := blk_below b1 l61
  replace b32 := blk_below b32 l61
  replace b60 := blk_below b60 l61
  replace L := below_step L l61
  replace lo := below_step lo l61
  replace lx := below_step lx l61
  refine E.GL.run rfl rfl rfl (E.Runs.pick_t rfl rfl rfl) ?_
  refine E.GL.run rfl rfl rfl (E.Runs.move rfl rfl) ?_
  refine E.GL.run rfl rfl rfl (E.Runs.move rfl rfl) ?_
  refine E.GL.run rfl rfl rfl (E.Runs.eql rfl rfl rfl (decide_eq_true rfl)) ?_
  refine E.GL.run rfl rfl rfl (E.Runs.pick_t rfl rfl rfl) ?_
  refine E.GL.run rfl rfl rfl (E.Runs.assign rfl rfl) ?_
  refine E.GL.done ?_
  refine E.QG.code ?_
  refine E.CG.ret ?_
  exact E.QG.result rfl rfl ⟨rfl, L⟩

end Go.Proofs.Ytmnjlnkfihklgaa.T
namespace Go.Proofs.Ytmnjlnkfihklgaa.T
open Go.RowKit Go.Proofs.YtmnjlnkfihklgaaW.PrintWords Go.Proofs.YtmnjlnkfihklgaaW.PrintMore
open Go.Proofs.Ytmnjlnkfihklgaa.P
set_option linter.unusedVariables false
theorem sumM_congr {a b : S35 → Int} : ∀ {l : List S35}, (∀ x ∈ l, a x = b x) → sumM a l = sumM b l
  | [], _ => rfl
  | x :: l, h => by simp only [sumM, h x List.mem_cons_self, sumM_congr (fun y hy => h y (List.mem_cons_of_mem _ hy))]
theorem sumM_sub (a b : S35 → Int) : ∀ l : List S35, sumM (fun x => a x - b x) l = sumM a l - sumM b l
  | [] => rfl
  | x :: l => by simp only [sumM, sumM_sub a b l]; omega
/-- A sum of one term over all passages and minutes. -/
theorem sumQ_one {qs : List S45} {T : Nat} {p t : Nat} (hp : p < qs.length) (ht : t + (qs.getD p z45).f3.toNat < T + 1) (a : Nat → Nat → Int) (h : ∀ i k, ¬ (i = p ∧ k = t) → a i k = 0) : sumQ T qs a = a p t := by
  unfold sumQ
  rw [sumN_eq (u := p) hp, sumN_eq (u := t) (by omega)]
  · intro k _ hk
    exact h p k (fun z => hk z.2)
  · intro i _ hi
    rw [sumN_congr (b := fun _ => 0), sumN_zero]
    intro k _
    exact h i k (fun z => hi z.1)
/-- A sum over moves is one over the passages and minutes. -/
theorem sumM_uses {qs : List S45} {T : Nat} (C : Nat → Nat → Prop) [∀ i k, Decidable (C i k)] : ∀ {l : List S35}, (∀ x ∈ l, MvOk qs T x) →
    sumM (fun x => if C x.f1.toNat x.f0.toNat then x.f2 else 0) l = sumQ T qs (fun i k => if C i k then usedM l i k else 0)
  | [], _ => by
    rw [sumQ_congr (b := fun _ _ => 0), sumQ_zero]
    · rfl
    · intro i k _ _
      split <;> rfl
  | x :: l, h => by
    have ih := sumM_uses C (l := l) (fun y hy => h y (List.mem_cons_of_mem _ hy))
    obtain ⟨⟨a1, a2⟩, ⟨b1, b2⟩, c1, c2, d1⟩ := h x List.mem_cons_self
    have e1 : sumQ T qs (fun i k => if C i k then usedM (x :: l) i k else 0) = sumQ T qs (fun i k => if C i k then usedF i k x else 0) + sumQ T qs (fun i k => if C i k then usedM l i k else 0) := by
      rw [← sumQ_add]
      refine sumQ_congr fun i k _ _ => ?_
      by_cases q : C i k
      · rw [if_pos q, if_pos q, if_pos q]; rfl
      · rw [if_neg q, if_neg q, if_neg q]; rfl
    have e2 := sumQ_one (T := T) (qs := qs) (p := x.f1.toNat) (t := x.f0.toNat) (by omega) (by have : (qs.getD x.f1.toNat z45).f3.toNat ≤ (T - x.f0).toNat := by omega
                                                                                               omega) (fun i k => if C i k then usedF i k x else 0) (fun i k hn => by
      have : usedF i k x = 0 := by
        unfold usedF
        rw [if_neg]
        rintro ⟨q1, q2⟩
        exact hn ⟨by omega, by omega⟩
      rw [this]
      split <;> rfl)
    have e3 : usedF (x.f1.toNat : Nat) (x.f0.toNat : Nat) x = x.f2 := by
      unfold usedF
      rw [if_pos ⟨by omega, by omega⟩]
    simp only [sumM]
    rw [ih, e1, e2]
    simp only [e3]
theorem isPl_all {ps : List Int} {qs : List S45} {T : Nat} {l : List S35} (h : IsPl ps qs T l) : ∀ x ∈ l, MvOk qs T x := fun x hx => by
  obtain ⟨k, hk⟩ := List.mem_iff_getElem?.mp hx
  exact (h.mv k x hk).1
/-- Who is in a room by moves that are right. -/
theorem thM_is {ps : List Int} {qs : List S45} (hok : HOk ps qs) {T : Nat} {l : List S35} (h : ∀ x ∈ l, MvOk qs T x) (r m : Nat) : thM ps qs l r m = thereU ps qs T (fun i k => usedM l i k) r m := by
  have e1 : _ = arrU qs T (fun i k => usedM l i k) r m := sumM_uses (T := T) (fun i k => (qs.getD i z45).f1 = r ∧ k + (qs.getD i z45).f3.toNat ≤ m) h
  have e2 : _ = depU qs T (fun i k => usedM l i k) r m := sumM_uses (T := T) (fun i k => (qs.getD i z45).f0 = r ∧ k ≤ m) h
  have e3 : sumM (thF qs r m) l = sumM (fun x => if (qs.getD x.f1.toNat z45).f1 = r ∧ x.f0.toNat + (qs.getD x.f1.toNat z45).f3.toNat ≤ m then x.f2 else 0) l - sumM (fun x => if (qs.getD x.f1.toNat z45).f0 = r ∧ x.f0.toNat ≤ m then x.f2 else 0) l := by
    rw [← sumM_sub]
    refine sumM_congr fun x hx => ?_
    obtain ⟨⟨a1, a2⟩, ⟨b1, b2⟩, c1, c2, d1⟩ := h x hx
    obtain ⟨_, _, _, _, _, _, _, h8, h9⟩ := hok.q _ (getD_mem (z := z45) (show x.f1.toNat < qs.length by omega))
    unfold thF
    congr 1
    · by_cases q : (qs.getD x.f1.toNat z45).f1 = r ∧ x.f0 + (qs.getD x.f1.toNat z45).f3 ≤ m
      · rw [if_pos q, if_pos ⟨q.1, by omega⟩]
      · rw [if_neg q, if_neg (fun z => q ⟨z.1, by omega⟩)]
    · by_cases q : (qs.getD x.f1.toNat z45).f0 = r ∧ x.f0 ≤ m
      · rw [if_pos q, if_pos ⟨q.1, by omega⟩]
      · rw [if_neg q, if_neg (fun z => q ⟨z.1, by omega⟩)]
  unfold thM thereU
  rw [e3, e1, e2]
  omega
theorem outM_is {qs : List S45} {T : Nat} {l : List S35} (h : ∀ x ∈ l, MvOk qs T x) : outM qs l = outU qs T (fun i k => usedM l i k) := by
  have e1 := sumM_uses (T := T) (fun i k => (qs.getD i z45).f1 = -1) h
  exact e1
theorem usedF_nonneg {qs : List S45} {T : Int} {x : S35} (h : MvOk qs T x) (p t : Int) : 0 ≤ usedF p t x := by
  obtain ⟨_, _, c1, _⟩ := h
  unfold usedF
  split <;> omega
/-- A plan is a use. -/
theorem IsPl.use {ps : List Int} {qs : List S45} (hok : HOk ps qs) {T : Nat} {l : List S35} (h : IsPl ps qs T l) : Use ps qs T (fun i k => usedM l i k) := by
  have hall := isPl_all h
  refine ⟨fun i k hi hk => ?_, fun r m hr hm => by rw [← thM_is hok hall]; exact h.th r m hr hm⟩
  obtain ⟨_, _, _, _, _, h6, _, _, _⟩ := hok.q _ (getD_mem (z := z45) hi)
  have key : ∀ n, n ≤ l.length → 0 ≤ usedM (l.take n) i k ∧ usedM (l.take n) i k ≤ (qs.getD i z45).f2 := by
    intro n
    induction n with
    | zero => intro _; simp only [List.take_zero, usedM, sumM]; omega
    | succ n ih =>
      intro hn
      have hx : l[n]? = some (l[n]'(by omega)) := List.getElem?_eq_getElem _
      generalize (l[n]'(by omega)) = x at hx
      obtain ⟨h1, h2⟩ := ih (by omega)
      have hm := h.mv n x hx
      have hst := sumM_step (h := usedF i k) hx
      have h0 := usedF_nonneg hm.1 i k
      have hst' : usedM (l.take (n + 1)) i k = usedM (l.take n) i k + usedF i k x := hst
      refine ⟨by omega, ?_⟩
      by_cases q : x.f0 = k ∧ x.f1 = i
      · have := hm.2
        rw [q.1, q.2, Int.toNat_natCast] at this
        exact this
      · have : usedF i k x = 0 := by unfold usedF; rw [if_neg q]
        omega
  have := key l.length (Nat.le_refl _)
  rw [List.take_length] at this
  exact this
theorem IsPl.le {ps : List Int} {qs : List S45} (hok : HOk ps qs) {T : Nat} {l : List S35} (h : IsPl ps qs T l) {N : Int} (k : IsMost ps qs T N) : outM qs l ≤ N := by
  obtain ⟨_, hr, _, e⟩ := k
  rw [outM_is (isPl_all h), ← e]
  exact use_le hok (h.use hok) hr
/-- Hours of a list. -/
theorem hrs_le {ps : List Int} {qs : List S45} (hok : HOk ps qs) {T : Nat} {hs : List Int} {N : Int} (k : IsMost ps qs T N) : N ≤ boundU ps qs T (hrF hs) := by
  obtain ⟨⟨u, hu, e⟩, _⟩ := k
  rw [← e]
  exact use_le hok hu _
end Go.Proofs.Ytmnjlnkfihklgaa.T
namespace Go.Proofs.Ytmnjlnkfihklgaa.T
open Go.RowKit Go.Proofs.YtmnjlnkfihklgaaW.PrintWords Go.Proofs.YtmnjlnkfihklgaaW.PrintMore
open Go.Proofs.Ytmnjlnkfihklgaa.P
set_option linter.unusedVariables false
def sumH (W : Nat × Bool → Int) : List (Nat × Bool) → Int
  | [] => 0
  | h :: r => W h + sumH W r
def sumK (W : Nat × Bool → Int) : List Ed → Nat → Int
  | [], _ => 0
  | e :: r, k => W (k, true) + W (k, false) + sumK W r (k + 1)
/-- All halves, by their nodes, are all edges' halves. -/
theorem sumH_all (W : Nat × Bool → Int) (n : Nat) : ∀ (E : List Ed) (k : Nat), EdsOk E n → sumN (fun v => sumH W (hs v E k)) n = sumK W E k
  | [], k, _ => by
    have : sumN (fun v => sumH W (hs v [] k)) n = sumN (fun _ => 0) n := sumN_congr (fun v _ => rfl)
    rw [this, sumN_zero]
    rfl
  | e :: r, k, h => by
    obtain ⟨h1, h2, h3⟩ := h e List.mem_cons_self
    have ih := sumH_all W n r (k + 1) (fun x hx => h x (List.mem_cons_of_mem _ hx))
    have e1 : sumN (fun v => sumH W (hs v (e :: r) k)) n = sumN (fun v => if True then (if e.fr = v then W (k, true) else 0) else 0) n + sumN (fun v => if True then (if e.td = v then W (k, false) else 0) else 0) n + sumN (fun v => sumH W (hs v r (k + 1))) n := by
      rw [← sumN_add, ← sumN_add]
      refine sumN_congr fun v _ => ?_
      simp only [hs, if_true]
      by_cases a : e.fr = v
      · rw [if_pos a, if_pos a, if_neg (fun z => h3 (a.trans z.symm))]
        simp only [sumH]
        omega
      · rw [if_neg a, if_neg a]
        by_cases b : e.td = v
        · rw [if_pos b, if_pos b]
          simp only [sumH]
          omega
        · rw [if_neg b, if_neg b]
          omega
    rw [e1, sumN_one, sumN_one, if_pos ⟨h1, trivial⟩, if_pos ⟨h2, trivial⟩, ih]
    rfl
theorem sumK_is {W : Nat × Bool → Int} {G : Ed → Int} : ∀ (E : List Ed) (k0 : Nat), (∀ j e, E[j]? = some e → W (k0 + j, true) + W (k0 + j, false) = G e) → sumK W E k0 = sumE G E
  | [], _, _ => rfl
  | e :: r, k0, h => by
    have ih := sumK_is (W := W) (G := G) r (k0 + 1) (fun j x hx => by
      have := h (j + 1) x (by simpa using hx)
      rw [show k0 + (j + 1) = k0 + 1 + j by omega] at this
      exact this)
    have h0 := h 0 e rfl
    rw [Nat.add_zero] at h0
    simp only [sumK, sumE, ih]
    omega
theorem sumM_row (h : S35 → Int) (qs : List S45) (Es : List Ed) (f : Nat → Int) : ∀ l : List (Nat × Bool), sumM h (mvR qs (l.map (entP Es f))) = sumH (fun p => sumM h (mvE qs (entP Es f p))) l
  | [] => rfl
  | p :: l => by
    have := sumM_row h qs Es f l
    simp only [mvR, List.map_cons, List.flatMap_cons, sumM_append, sumH] at *
    omega
theorem sumM_mvN (h : S35 → Int) (qs : List S45) (Es : List Ed) (f : Nat → Int) : ∀ n, sumM h (mvN Es f qs n) = sumN (fun v => sumH (fun p => sumM h (mvE qs (entP Es f p))) (hs v Es 0)) n
  | 0 => rfl
  | n + 1 => by
    rw [mvN_step, sumM_append, sumM_mvN h qs Es f n]
    simp only [sumN]
    congr 1
    exact sumM_row h qs Es f _
section
variable {ps : List Int} {qs : List S45} {T : Nat} {f : Nat → Int} {out : Int}
/-- The moves of a half of an edge of a house. -/
theorem mvE_back {e : Ed} {k : Nat} (he : (edH ps qs T)[k]? = some e) : mvE qs (entP (edH ps qs T) f (k, false)) = [] := by
  rw [entP_is he]
  unfold mvE
  rw [if_pos (by simp)]
theorem mvE_room {e : Ed} {k : Nat} (he : (edH ps qs T)[k]? = some e) (hu : e.up = -1) : mvE qs (entP (edH ps qs T) f (k, true)) = [] := by
  rw [entP_is he]
  unfold mvE
  simp only [if_true, hu]
  rfl
theorem mvE_pass {i j k : Nat} (he : (edH ps qs T)[k]? = some (passE qs T i j)) : mvE qs (entP (edH ps qs T) f (k, true)) = if 0 < f k then [⟨(j : Int), (i : Int), f k⟩] else [] := by
  rw [entP_is he]
  unfold mvE roomP
  rw [getD_at he]
  have e1 : (passE qs T i j).up = (i : Int) := rfl
  have e2 : (passE qs T i j).um = (j : Int) := rfl
  have e3 : (passE qs T i j).cap = (qs.getD i z45).f2 := rfl
  simp only [if_true, e1, e2, e3]
  rw [if_neg (by omega), Int.toNat_natCast, show (qs.getD i z45).f2 - ((qs.getD i z45).f2 - f k) = f k by omega]
theorem edge_kind {e : Ed} {k : Nat} (he : (edH ps qs T)[k]? = some e) : e.up = -1 ∨ ∃ i j, i < qs.length ∧ j + (qs.getD i z45).f3.toNat < T + 1 ∧ e = passE qs T i j := by
  rcases List.mem_append.mp (List.mem_of_getElem? he) with hm | hm
  · obtain ⟨r, hr, rfl | ⟨m, hm', rfl⟩⟩ := edRs_mem hm
    · exact .inl rfl
    · exact .inl rfl
  · obtain ⟨i, m, hi, hm', rfl⟩ := edQs_mem hm
    exact .inr ⟨i, m, hi, hm', rfl⟩
/-- A sum over the plan of a flow. -/
theorem plan_sum (h : HOk ps qs) (F : HFlow ps qs T f out) (C : Nat → Nat → Prop) [∀ i k, Decidable (C i k)] :
    sumM (fun x => if C x.f1.toNat x.f0.toNat then x.f2 else 0) (mvN (edH ps qs T) f qs (nodeN T ps.length 0)) = sumQ T qs (fun i k => if C i k then useF ps qs T f i k else 0) := by
  have hg : ∀ k e, (edH ps qs T)[k]? = some e → f k = gOf f (edH ps qs T) e := fun k e he => gOf_is (edH_nodup ps qs T) he
  rw [sumM_mvN, sumH_all _ _ _ _ (edH_ok h), sumK_is (G := fun e => if 0 ≤ e.up then (if C e.up.toNat e.um.toNat then gOf f (edH ps qs T) e else 0) else 0), sumE_house]
  · have e1 : sumN (fun r => (if 0 ≤ (srcE ps T r).up then (if C (srcE ps T r).up.toNat (srcE ps T r).um.toNat then gOf f (edH ps qs T) (srcE ps T r) else 0) else 0) + sumN (fun m => if 0 ≤ (holdE T r m).up then (if C (holdE T r m).up.toNat (holdE T r m).um.toNat then gOf f (edH ps qs T) (holdE T r m) else 0) else 0) T) ps.length = 0 := by
      rw [sumN_congr (b := fun _ => 0), sumN_zero]
      intro r _
      rw [if_neg (show ¬ (0 : Int) ≤ (srcE ps T r).up from by show ¬ (0 : Int) ≤ -1; decide), sumN_congr (b := fun _ => 0), sumN_zero]
      · rfl
      · intro m _
        exact if_neg (show ¬ (0 : Int) ≤ (holdE T r m).up from by show ¬ (0 : Int) ≤ -1; decide)
    rw [e1, Int.zero_add]
    refine sumQ_congr fun i k _ _ => ?_
    rw [if_pos (show (0 : Int) ≤ (passE qs T i k).up from by show (0 : Int) ≤ (i : Int); omega)]
    rfl
  · intro j e he
    rw [Nat.zero_add, mvE_back he]
    rcases edge_kind he with hu | ⟨i, m, hi, hm, rfl⟩
    · rw [mvE_room he hu, if_neg (by omega)]
      rfl
    · rw [mvE_pass he, if_pos (show (0 : Int) ≤ (passE qs T i m).up from by show (0 : Int) ≤ (i : Int); omega), ← hg j _ he]
      have hp := F.pos j _ he
      have e1 : (passE qs T i m).up.toNat = i := rfl
      have e2 : (passE qs T i m).um.toNat = m := rfl
      rw [e1, e2]
      by_cases q : 0 < f j
      · rw [if_pos q]
        simp only [sumM, Int.toNat_natCast]
        omega
      · rw [if_neg q, show f j = 0 by omega]
        simp only [sumM]
        split <;> rfl
theorem plan_mem (h : HOk ps qs) (F : HFlow ps qs T f out) : ∀ x ∈ mvN (edH ps qs T) f qs (nodeN T ps.length 0), MvOk qs T x := by
  intro x hx
  unfold mvN at hx
  obtain ⟨v, hv, hx⟩ := List.mem_flatMap.mp hx
  obtain ⟨y, hy, hx⟩ := List.mem_flatMap.mp hx
  obtain ⟨a, ha⟩ := List.mem_iff_getElem?.mp hy
  obtain ⟨k, b, e, _, he, _, rfl⟩ := rowP_half ha
  cases b with
  | false => rw [mvE_back he] at hx; cases hx
  | true =>
    rcases edge_kind he with hu | ⟨i, m, hi, hm, rfl⟩
    · rw [mvE_room he hu] at hx; cases hx
    · rw [mvE_pass he] at hx
      have hc := F.cap k _ he (.inr (show ((i : Nat) : Int) ≠ -1 by omega))
      have hc' : f k ≤ (qs.getD i z45).f2 := hc
      obtain ⟨_, _, _, _, _, h6, h7, h8, h9⟩ := h.q _ (getD_mem (z := z45) hi)
      split at hx
      · next q =>
        obtain rfl : x = ⟨(m : Int), (i : Int), f k⟩ := by simpa using hx
        refine ⟨⟨by simp only; omega, by simp only; omega⟩, ⟨by simp only; omega, by simp only; omega⟩, by simp only; omega, by simp only; omega, ?_⟩
        show (m : Int) + (qs.getD ((i : Nat) : Int).toNat z45).f3 ≤ T
        rw [Int.toNat_natCast]
        omega
      · cases hx
theorem usedM_take {l : List S35} (h : ∀ x ∈ l, MvOk qs T x) (p t : Int) (n : Nat) : usedM (l.take n) p t ≤ usedM l p t := by
  have e : usedM l p t = usedM (l.take n) p t + usedM (l.drop n) p t := by
    unfold usedM
    rw [← sumM_append, List.take_append_drop]
  have : 0 ≤ usedM (l.drop n) p t := by
    unfold usedM
    have : ∀ k : List S35, (∀ x ∈ k, MvOk qs T x) → 0 ≤ sumM (usedF p t) k := by
      intro k
      induction k with
      | nil => intro _; exact Int.le_refl _
      | cons x k ih =>
        intro hk
        have h1 := usedF_nonneg (hk x List.mem_cons_self) p t
        have h2 := ih (fun y hy => hk y (List.mem_cons_of_mem _ hy))
        simp only [sumM]
        omega
    exact this _ (fun x hx => h x (List.mem_of_mem_drop hx))
  omega
theorem plan_used (h : HOk ps qs) (F : HFlow ps qs T f out) {i k : Nat} (hi : i < qs.length) (hk : k + (qs.getD i z45).f3.toNat < T + 1) : usedM (mvN (edH ps qs T) f qs (nodeN T ps.length 0)) i k = useF ps qs T f i k := by
  have e1 := plan_sum h F (fun a b => a = i ∧ b = k)
  have e2 := sumQ_one (T := T) (qs := qs) hi hk (fun a b => if a = i ∧ b = k then useF ps qs T f a b else 0) (fun a b hn => if_neg hn)
  rw [e2, if_pos ⟨rfl, rfl⟩] at e1
  rw [← e1]
  unfold usedM
  refine sumM_congr fun x hx => ?_
  obtain ⟨⟨a1, a2⟩, ⟨b1, b2⟩, _⟩ := plan_mem h F x hx
  unfold usedF
  by_cases q : x.f0 = k ∧ x.f1 = i
  · rw [if_pos q, if_pos ⟨by omega, by omega⟩]
  · rw [if_neg q, if_neg (fun z => q ⟨by omega, by omega⟩)]
/-- The plan of a flow. -/
theorem plan_is (h : HOk ps qs) (F : HFlow ps qs T f out) : IsPl ps qs T (mvN (edH ps qs T) f qs (nodeN T ps.length 0)) ∧ outM qs (mvN (edH ps qs T) f qs (nodeN T ps.length 0)) = out := by
  have hall := plan_mem h F
  obtain ⟨hu, ho⟩ := F.use h
  have arr : ∀ r m, arrU qs T (fun i k => usedM (mvN (edH ps qs T) f qs (nodeN T ps.length 0)) i k) r m = arrU qs T (useF ps qs T f) r m := fun r m => by
    unfold arrU
    refine sumQ_congr fun i k hi hk => ?_
    dsimp only
    rw [plan_used h F hi hk]
  have dep : ∀ r m, depU qs T (fun i k => usedM (mvN (edH ps qs T) f qs (nodeN T ps.length 0)) i k) r m = depU qs T (useF ps qs T f) r m := fun r m => by
    unfold depU
    refine sumQ_congr fun i k hi hk => ?_
    dsimp only
    rw [plan_used h F hi hk]
  refine ⟨⟨fun a x hx => ⟨hall x (List.mem_of_getElem? hx), ?_⟩, fun r m hr hm => ?_⟩, ?_⟩
  · have hm := hall x (List.mem_of_getElem? hx)
    obtain ⟨⟨a1, a2⟩, ⟨b1, b2⟩, c1, c2, d1⟩ := hm
    have hi : x.f1.toNat < qs.length := by omega
    have hk : x.f0.toNat + (qs.getD x.f1.toNat z45).f3.toNat < T + 1 := by omega
    have h1 := usedM_take hall x.f1 x.f0 (a + 1)
    have h2 := plan_used h F hi hk
    have h3 := (hu.w _ _ hi hk).2
    rw [Int.toNat_of_nonneg b1, Int.toNat_of_nonneg a1] at h2
    show _ ≤ (qs.getD x.f1.toNat z45).f2
    omega
  · rw [thM_is h hall]
    have := hu.there r m hr hm
    unfold thereU at this ⊢
    rw [arr, dep]
    exact this
  · rw [outM_is hall, ← ho]
    unfold outU
    refine sumQ_congr fun i k hi hk => ?_
    dsimp only
    rw [plan_used h F hi hk]
end
end Go.Proofs.Ytmnjlnkfihklgaa.T
namespace Go.Proofs.Ytmnjlnkfihklgaa.T
open Go.RowKit Go.Proofs.YtmnjlnkfihklgaaW.PrintWords Go.Proofs.YtmnjlnkfihklgaaW.PrintMore
open Go.Proofs.Ytmnjlnkfihklgaa.P
set_option linter.unusedVariables false
section
variable {ps : List Int} {qs : List S45} {T : Nat}
theorem sumM_len : ∀ l : List S35, sumM (fun _ => 1) l = l.length
  | [] => rfl
  | x :: l => by simp only [sumM, sumM_len l, List.length_cons]; push_cast; omega
theorem sumK_le {W : Nat × Bool → Int} : ∀ (E : List Ed) (k0 : Nat), (∀ j e, E[j]? = some e → W (k0 + j, true) + W (k0 + j, false) ≤ 1) → sumK W E k0 ≤ E.length
  | [], _, _ => by simp [sumK]
  | e :: r, k0, h => by
    have h0 := h 0 e rfl
    have ih := sumK_le r (k0 + 1) (fun j x hx => by
      have := h (j + 1) x (by simpa using hx)
      rw [show k0 + (j + 1) = k0 + 1 + j by omega] at this
      exact this)
    simp only [sumK, List.length_cons, Nat.add_zero] at *
    push_cast
    omega
theorem mvN_few (h : HOk ps qs) (f : Nat → Int) : (mvN (edH ps qs T) f qs (nodeN T ps.length 0)).length ≤ (edH ps qs T).length := by
  have h1 := sumM_len (mvN (edH ps qs T) f qs (nodeN T ps.length 0))
  rw [sumM_mvN, sumH_all _ _ _ _ (edH_ok h)] at h1
  have h2 := sumK_le (W := fun p => sumM (fun _ => 1) (mvE qs (entP (edH ps qs T) f p))) (edH ps qs T) 0 (fun j e he => by
    rw [Nat.zero_add, mvE_back he]
    rcases edge_kind he with hu | ⟨i, m, hi, hm, rfl⟩
    · rw [mvE_room he hu]
      simp [sumM]
    · rw [mvE_pass he]
      split <;> simp [sumM])
  omega
theorem planR_ok (h : HOk ps qs) (hT : T ≤ 60) {l : List S35} {N : Int} (a : PlanR ps qs T l) (b : IsMost ps qs T N) : IsPl ps qs T l ∧ outM qs l = N ∧ l.length ≤ 2000 := by
  obtain ⟨f, out, M, rfl⟩ := a.1 (chkE_ok.mpr ⟨h, by unfold inR; omega⟩)
  rw [Int.toNat_natCast] at M ⊢
  obtain ⟨k1, k2⟩ := plan_is h M.hflow
  have e := (M.most h).one h b
  have k3 := mvN_few h (T := T) f
  have k4 := edH_len h hT
  exact ⟨k1, k2.trans e, by omega⟩
theorem proofR_ok (h : HOk ps qs) (hT : T ≤ 60) {hs : List Int} {N : Int} (a : ProofR ps qs T hs) (b : IsMost ps qs T N) : HrsOk ps.length T hs ∧ boundU ps qs T (hrF hs) = N ∧ hs.length ≤ 40 := by
  obtain ⟨f, out, bl, il, M, hR, rfl⟩ := a.1 (chkE_ok.mpr ⟨h, by unfold inR; omega⟩)
  rw [Int.toNat_natCast] at M hR ⊢
  have hh := hourN_hrs ps T il
  have hF : ∀ r, r < ps.length → hrF (hrsL T il ps.length) r = hourN T il r := fun r hr => by
    unfold hrF hrsL
    rw [List.getD_eq_getElem?_getD, List.getElem?_map, List.getElem?_range hr]
    simp
  have e := (M.most h).one h b
  refine ⟨⟨fun x hx => ?_, hrsL_len _ _ _⟩, ?_, ?_⟩
  · obtain ⟨r, hr, rfl⟩ := List.mem_map.mp hx
    have := (hh r (List.mem_range.mp hr)).1
    unfold inR
    omega
  · rw [← e]
    refine M.hours h hR (hr := hrF (hrsL T il ps.length)) fun r hr => ?_
    rw [hF r hr]
    exact hh r hr
  · rw [hrsL_len]
    have := h.r6
    omega
end
end Go.Proofs.Ytmnjlnkfihklgaa.T
namespace Go.Proofs.Ytmnjlnkfihklgaa.T
open Go.RowKit Go.Proofs.YtmnjlnkfihklgaaW.PrintWords Go.Proofs.YtmnjlnkfihklgaaW.PrintMore
open Go.Proofs.Ytmnjlnkfihklgaa.P
set_option linter.unusedVariables false
set_option linter.unusedSimpArgs false

set_option maxRecDepth 100000 in
set_option maxHeartbeats 8000000 in

theorem proof_law (ps : List Int) (qs : List S45) (A B : Option Addr) (c d : Nat) (w : World) (hP : Kd.C kI w A ps.length ps) (hQ : Kd.C k45 w B qs.length qs) (m1 : Int) (C D : Option Addr) (k1 k2 : Nat) (l : List S35) (hs : List Int) (hX : Kd.C k35 w C l.length l) (hY : Kd.C kI w D hs.length hs) :
    Calls Try.prog 10 #[hv ps qs A B c d, .int .i64 m1, .agg #[.slice C l.length k1, .slice D hs.length k2]] w fun e w' => e = .returned (.bool true) ∧ Below w.heap.size w w' := by
  have hu3 := Try.underlying3
  have hu22 := Try.underlying22
  have hu25 := Try.underlying25
  have hu26 := Try.underlying26
  have hu59 := Try.underlying59
  obtain ⟨z3, o3⟩ := info_some info3s (by decide)
  obtain ⟨z22, o22⟩ := info_some info22s (by decide)
  obtain ⟨z25, o25⟩ := info_some info25s (by decide)
  obtain ⟨z26, o26⟩ := info_some info26s (by decide)
  refine E.enter (N := 131) Try.func10 rfl Try.ntmps10 (args := [hv ps qs A B c d, .int .i64 m1, .agg #[.slice C l.length k1, .slice D hs.length k2]]) (by simp) ?_
  have L := Below.refl w.heap.size w
  refine E.CG.seq ?_
  refine E.CG.list ?_
  refine E.GL.st rfl rfl rfl (E.ST.box rfl rfl fun g3 w3 e3 b3 l3 => ?_)
  have h3_L : w.heap.size ≤ g3 := by rw [e3]; exact L.size
  replace L := below_step L l3
  refine E.GL.st rfl rfl rfl (E.ST.box rfl rfl fun g5 w5 e5 b5 l5 => ?_)
  have h5_L : w.heap.size ≤ g5 := by rw [e5]; exact L.size
  have n5_b3 : g3 ≠ g5 := by have := blk_lt b3; omega
  replace b3 := blk_below b3 l5
  replace L := below_step L l5
  refine E.GL.run rfl rfl rfl (E.Runs.assign rfl rfl) ?_
  refine E.GL.done ?_
  refine E.QG.code ?_
  refine E.CG.seq ?_
  refine E.CG.seq ?_
  refine E.CG.list ?_
  refine E.GL.run rfl rfl rfl (E.Runs.loads (cs := [.slice A ps.length c, .slice B qs.length d]) rfl rfl hu25 rfl info25s (blk_cells b3)) ?_
  refine E.GL.run rfl rfl rfl (E.Runs.move rfl rfl) ?_
  by_cases h17 : ready ps qs m1
  · refine E.GL.st rfl rfl rfl (E.ST.call rfl ent27 (E.evc rfl (E.evc rfl E.evn)) ((ready_calls ps qs A B c d _ true (Kd.C_below hP L) (Kd.C_below hQ L) m1 (iff_of_true rfl h17)).mono ?_))
    rintro e w17 ⟨rfl, l17⟩
    refine ⟨_, rfl, ?_⟩
    replace b3 := blk_below b3 l17
    replace b5 := blk_below b5 l17
    replace L := below_step L l17
    refine E.GL.run rfl rfl rfl (E.Runs.not rfl rfl) ?_
    refine E.GL.run rfl rfl rfl (E.Runs.move rfl rfl) ?_
    refine E.GL.run rfl rfl rfl (E.Runs.fieldAddr rfl rfl hu59 rfl (by assumption) rfl) ?_
    refine E.GL.run rfl rfl rfl (E.Runs.load1 rfl rfl hu26 rfl (by first | assumption | exact E.blkc (by assumption) rfl | exact pw_cell_below L (by assumption))) ?_
    refine E.GL.run rfl rfl rfl (E.Runs.len rfl rfl hu26) ?_
    refine E.GL.cmp rfl rfl rfl (fun _ h => (E.Runs.gtr rfl rfl rfl h)) (fun h23 => ?_) (fun h23 => ?_)
    · refine E.GL.run rfl rfl rfl (E.Runs.pick_f rfl rfl rfl) ?_
      refine E.GL.run rfl rfl rfl (E.Runs.move rfl rfl) ?_
      refine E.GL.skip rfl rfl rfl ?_
      refine E.GL.skip rfl rfl rfl ?_
      refine E.GL.skip rfl rfl rfl ?_
      refine E.GL.skip rfl rfl rfl ?_
      refine E.GL.run rfl rfl rfl (E.Runs.pick_t rfl rfl rfl) ?_
      refine E.GL.done ?_
      refine E.QG.code ?_
      refine E.CG.cond_t rfl ?_
      refine E.CG.seq ?_
      refine E.CG.list ?_
      refine E.GL.st rfl rfl rfl (E.ST.call rfl ent12 E.evn ((works_calls _).mono ?_))
      rintro e w31 ⟨rfl, l31⟩
      refine ⟨_, rfl, ?_⟩
      replace b3 := blk_below b3 l31
      replace b5 := blk_below b5 l31
      replace L := below_step L l31
      refine E.GL.run rfl rfl rfl (E.Runs.assign rfl rfl) ?_
      refine E.GL.done ?_
      refine E.QG.code ?_
      refine E.CG.ret ?_
      refine E.QG.pass_ret ?_
      exact E.QG.result rfl rfl ⟨rfl, L⟩
    · refine E.GL.run rfl rfl rfl (E.Runs.pick_f rfl rfl rfl) ?_
      refine E.GL.run rfl rfl rfl (E.Runs.move rfl rfl) ?_
      refine E.GL.run rfl rfl rfl (E.Runs.fieldAddr rfl rfl hu59 rfl (by assumption) rfl) ?_
      refine E.GL.run rfl rfl rfl (E.Runs.load1 rfl rfl hu22 rfl (by first | assumption | exact E.blkc (by assumption) rfl | exact pw_cell_below L (by assumption))) ?_
      refine E.GL.run rfl rfl rfl (E.Runs.len rfl rfl hu22) ?_
      refine E.GL.cmp rfl rfl rfl (fun _ h => (E.Runs.gtr rfl rfl rfl h)) (fun h29 => ?_) (fun h29 => ?_)
      · refine E.GL.run rfl rfl rfl (E.Runs.pick_f rfl rfl rfl) ?_
        refine E.GL.done ?_
        refine E.QG.code ?_
        refine E.CG.cond_t rfl ?_
        refine E.CG.seq ?_
        refine E.CG.list ?_
        refine E.GL.st rfl rfl rfl (E.ST.call rfl ent12 E.evn ((works_calls _).mono ?_))
        rintro e w31 ⟨rfl, l31⟩
        refine ⟨_, rfl, ?_⟩
        replace b3 := blk_below b3 l31
        replace b5 := blk_below b5 l31
        replace L := below_step L l31
        refine E.GL.run rfl rfl rfl (E.Runs.assign rfl rfl) ?_
        refine E.GL.done ?_
        refine E.QG.code ?_
        refine E.CG.ret ?_
        refine E.QG.pass_ret ?_
        exact E.QG.result rfl rfl ⟨rfl, L⟩
      · refine E.GL.run rfl rfl rfl (E.Runs.pick_f rfl rfl rfl) ?_
        refine E.GL.done ?_
        refine E.QG.code ?_
        refine E.CG.cond_f rfl ?_
        refine E.CG.skip ?_
        refine E.QG.code ?_
        refine E.CG.seq ?_
        obtain ⟨hfar, hlate, hH, hm0, hm1⟩ := h17
        obtain ⟨hb1, hb2⟩ := not_far hfar
        obtain ⟨T, rfl⟩ : ∃ T : Nat, m1 = T := ⟨m1.toNat, by omega⟩
        have hT : T ≤ 60 := by omega
        have hE0 : chkE ps qs T = 0 := chkE_ok.mpr ⟨hH, by unfold inR; omega⟩
        haveI : Decidable (IsPl ps qs T l) := Classical.propDecidable _
        have hl60 : l.length ≤ 60 := by omega
        have hs40 : hs.length ≤ 40 := by omega
        refine E.CG.list ?_
        refine E.GL.run rfl rfl rfl (E.Runs.loads (cs := [.slice A ps.length c, .slice B qs.length d]) rfl rfl hu25 rfl info25s (blk_cells b3)) ?_
        refine E.GL.run rfl rfl rfl (E.Runs.move rfl rfl) ?_
        refine E.GL.st rfl rfl rfl (E.ST.call rfl ent28 (E.evc rfl (E.evc rfl E.evn)) ((most_calls ps qs A B c d _ (Kd.C_below hP L) (Kd.C_below hQ L) (by omega) (by omega) T).mono ?_))
        rintro e w35 ⟨N35, rfl, hM35, l35⟩
        refine ⟨_, rfl, ?_⟩
        replace b3 := blk_below b3 l35
        replace b5 := blk_below b5 l35
        replace L := below_step L l35
        rw [hE0]
        have hIs := hM35.1 hE0
        rw [Int.toNat_natCast] at hIs
        refine E.GL.run rfl rfl rfl (E.Runs.move rfl rfl) ?_
        refine E.GL.run rfl rfl rfl (E.Runs.extract rfl rfl rfl) ?_
        refine E.GL.run rfl rfl rfl (E.Runs.extract rfl rfl rfl) ?_
        refine E.GL.run rfl rfl rfl (E.Runs.assign rfl rfl) ?_
        refine E.GL.run rfl rfl rfl (E.Runs.assign rfl rfl) ?_
        refine E.GL.done ?_
        refine E.QG.code ?_
        refine E.CG.seq ?_
        refine E.CG.list ?_
        refine E.GL.run rfl rfl rfl (E.Runs.loads (cs := [.slice A ps.length c, .slice B qs.length d]) rfl rfl hu25 rfl info25s (blk_cells b3)) ?_
        refine E.GL.run rfl rfl rfl (E.Runs.move rfl rfl) ?_
        have hs41 := L.size
        refine E.GL.st rfl rfl rfl (E.ST.call rfl ent31 (E.evc rfl (E.evc rfl E.evn)) ((plan_calls ps qs A B c d _ (Kd.C_below hP L) (Kd.C_below hQ L) (by omega) (by omega) T).mono ?_))
        rintro e w41 ⟨v41, x41, rfl, R41, hR41, l41⟩
        refine ⟨_, rfl, ?_⟩
        replace b3 := blk_below b3 l41
        replace b5 := blk_below b5 l41
        replace L := below_step L l41
        rw [hE0]
        obtain ⟨A41, c41, hv41⟩ := Kd.R_slice R41
        subst hv41
        replace R41 := Kd.R_lower R41 hs41
        obtain ⟨hpl, hpo, hf41⟩ := planR_ok hH hT hR41 hIs
        have hin : MvIn qs x41 := fun x hx => by obtain ⟨q1, q2, q3, q4, q5⟩ := isPl_all' hpl x hx; unfold inR at q2; omega
        refine E.GL.run rfl rfl rfl (E.Runs.move rfl rfl) ?_
        refine E.GL.run rfl rfl rfl (E.Runs.extract rfl rfl rfl) ?_
        refine E.GL.run rfl rfl rfl (E.Runs.extract rfl rfl rfl) ?_
        refine E.GL.run rfl rfl rfl (E.Runs.assign rfl rfl) ?_
        refine E.GL.run rfl rfl rfl (E.Runs.assign rfl rfl) ?_
        refine E.GL.done ?_
        refine E.QG.code ?_
        refine E.CG.seq ?_
        refine E.CG.list ?_
        refine E.GL.run rfl rfl rfl (E.Runs.loads (cs := [.slice A ps.length c, .slice B qs.length d]) rfl rfl hu25 rfl info25s (blk_cells b3)) ?_
        refine E.GL.run rfl rfl rfl (E.Runs.move rfl rfl) ?_
        have hs47 := L.size
        refine E.GL.st rfl rfl rfl (E.ST.call rfl ent32 (E.evc rfl (E.evc rfl E.evn)) ((proof_calls ps qs A B c d _ (Kd.C_below hP L) (Kd.C_below hQ L) (by omega) (by omega) T).mono ?_))
        rintro e w47 ⟨v47, x47, rfl, R47, hR47, l47⟩
        refine ⟨_, rfl, ?_⟩
        replace b3 := blk_below b3 l47
        replace b5 := blk_below b5 l47
        replace R41 := Kd.R_below R41 l47
        replace L := below_step L l47
        rw [hE0]
        obtain ⟨A47, c47, hv47⟩ := Kd.R_slice R47
        subst hv47
        replace R47 := Kd.R_lower R47 hs47
        obtain ⟨hhr, hbo, hf47⟩ := proofR_ok hH hT hR47 hIs
        refine E.GL.run rfl rfl rfl (E.Runs.move rfl rfl) ?_
        refine E.GL.run rfl rfl rfl (E.Runs.extract rfl rfl rfl) ?_
        refine E.GL.run rfl rfl rfl (E.Runs.extract rfl rfl rfl) ?_
        refine E.GL.run rfl rfl rfl (E.Runs.assign rfl rfl) ?_
        refine E.GL.run rfl rfl rfl (E.Runs.assign rfl rfl) ?_
        refine E.GL.done ?_
        refine E.QG.code ?_
        refine E.CG.seq ?_
        refine E.CG.seq ?_
        refine E.CG.list ?_
        refine E.GL.run rfl rfl rfl (E.Runs.move rfl rfl) ?_
        refine E.GL.run rfl rfl rfl (E.Runs.neq rfl rfl rfl (E.ne_f rfl)) ?_
        refine E.GL.run rfl rfl rfl (E.Runs.move rfl rfl) ?_
        refine E.GL.run rfl rfl rfl (E.Runs.move rfl rfl) ?_
        refine E.GL.run rfl rfl rfl (E.Runs.neq rfl rfl rfl (E.ne_f rfl)) ?_
        refine E.GL.run rfl rfl rfl (E.Runs.pick_f rfl rfl rfl) ?_
        refine E.GL.run rfl rfl rfl (E.Runs.move rfl rfl) ?_
        refine E.GL.run rfl rfl rfl (E.Runs.move rfl rfl) ?_
        refine E.GL.run rfl rfl rfl (E.Runs.neq rfl rfl rfl (E.ne_f rfl)) ?_
        refine E.GL.run rfl rfl rfl (E.Runs.pick_f rfl rfl rfl) ?_
        refine E.GL.run rfl rfl rfl (E.Runs.move rfl rfl) ?_
        refine E.GL.run rfl rfl rfl (E.Runs.move rfl rfl) ?_
        refine E.GL.run rfl rfl rfl (E.Runs.len rfl rfl hu26) ?_
        refine E.GL.run rfl rfl rfl (E.Runs.gtr rfl rfl rfl (decide_eq_false (by omega))) ?_
        refine E.GL.run rfl rfl rfl (E.Runs.pick_f rfl rfl rfl) ?_
        refine E.GL.run rfl rfl rfl (E.Runs.move rfl rfl) ?_
        refine E.GL.run rfl rfl rfl (E.Runs.loads (cs := [.slice A ps.length c, .slice B qs.length d]) rfl rfl hu25 rfl info25s (blk_cells b3)) ?_
        refine E.GL.run rfl rfl rfl (E.Runs.move rfl rfl) ?_
        refine E.GL.run rfl rfl rfl (E.Runs.move rfl rfl) ?_
        refine E.GL.st rfl rfl rfl (E.ST.call rfl ent33 (E.evc rfl (E.evc rfl (E.evc rfl E.evn))) ((isPlan_calls ps qs A B A41 c d c41 T x41 true hH (by simpa using hpl) _ (Kd.C_below hP L) (Kd.C_below hQ L) (Kd.R_reads' R41).2.2 (by omega) hT).mono ?_))
        rintro e w69 ⟨rfl, l69⟩
        refine ⟨_, rfl, ?_⟩
        replace b3 := blk_below b3 l69
        replace b5 := blk_below b5 l69
        replace R41 := Kd.R_below R41 l69
        replace R47 := Kd.R_below R47 l69
        replace L := below_step L l69
        refine E.GL.run rfl rfl rfl (E.Runs.not rfl rfl) ?_
        refine E.GL.run rfl rfl rfl (E.Runs.pick_f rfl rfl rfl) ?_
        refine E.GL.run rfl rfl rfl (E.Runs.move rfl rfl) ?_
        refine E.GL.run rfl rfl rfl (E.Runs.loads (cs := [.slice A ps.length c, .slice B qs.length d]) rfl rfl hu25 rfl info25s (blk_cells b3)) ?_
        refine E.GL.run rfl rfl rfl (E.Runs.move rfl rfl) ?_
        refine E.GL.run rfl rfl rfl (E.Runs.move rfl rfl) ?_
        refine E.GL.st rfl rfl rfl (E.ST.call rfl ent35 (E.evc rfl (E.evc rfl (E.evc rfl E.evn))) ((areHours_calls ps qs A B A47 c d c47 T x47 true (by simpa using hhr) _ (Kd.R_reads' R47).2.2 (by omega) (by omega)).mono ?_))
        rintro e w76 ⟨rfl, l76⟩
        refine ⟨_, rfl, ?_⟩
        replace b3 := blk_below b3 l76
        replace b5 := blk_below b5 l76
        replace R41 := Kd.R_below R41 l76
        replace R47 := Kd.R_below R47 l76
        replace L := below_step L l76
        refine E.GL.run rfl rfl rfl (E.Runs.not rfl rfl) ?_
        refine E.GL.run rfl rfl rfl (E.Runs.pick_f rfl rfl rfl) ?_
        refine E.GL.done ?_
        refine E.QG.code ?_
        refine E.CG.cond_f rfl ?_
        refine E.CG.skip ?_
        refine E.QG.code ?_
        refine E.CG.seq ?_
        refine E.CG.seq ?_
        refine E.CG.list ?_
        refine E.GL.run rfl rfl rfl (E.Runs.loads (cs := [.slice A ps.length c, .slice B qs.length d]) rfl rfl hu25 rfl info25s (blk_cells b3)) ?_
        refine E.GL.run rfl rfl rfl (E.Runs.move rfl rfl) ?_
        refine E.GL.st rfl rfl rfl (E.ST.call rfl ent34 (E.evc rfl (E.evc rfl E.evn)) ((gone_calls ps qs A B A41 c d c41 x41 _ (Kd.C_below hQ L) (Kd.R_reads' R41).2.2 (by omega) hin).mono ?_))
        rintro e w81 ⟨rfl, l81⟩
        refine ⟨_, rfl, ?_⟩
        replace b3 := blk_below b3 l81
        replace b5 := blk_below b5 l81
        replace R41 := Kd.R_below R41 l81
        replace R47 := Kd.R_below R47 l81
        replace L := below_step L l81
        refine E.GL.run rfl rfl rfl (E.Runs.move rfl rfl) ?_
        refine E.GL.run rfl rfl rfl (E.Runs.neq rfl rfl rfl (E.ne_f hpo)) ?_
        refine E.GL.run rfl rfl rfl (E.Runs.move rfl rfl) ?_
        refine E.GL.run rfl rfl rfl (E.Runs.loads (cs := [.slice A ps.length c, .slice B qs.length d]) rfl rfl hu25 rfl info25s (blk_cells b3)) ?_
        refine E.GL.run rfl rfl rfl (E.Runs.move rfl rfl) ?_
        refine E.GL.run rfl rfl rfl (E.Runs.move rfl rfl) ?_
        refine E.GL.st rfl rfl rfl (E.ST.call rfl ent36 (E.evc rfl (E.evc rfl (E.evc rfl E.evn))) ((bound_calls ps qs A B A47 c d c47 T x47 hH hhr _ (Kd.C_below hP L) (Kd.C_below hQ L) (Kd.R_reads' R47).2.2 hT).mono ?_))
        rintro e w88 ⟨rfl, l88⟩
        refine ⟨_, rfl, ?_⟩
        replace b3 := blk_below b3 l88
        replace b5 := blk_below b5 l88
        replace R41 := Kd.R_below R41 l88
        replace R47 := Kd.R_below R47 l88
        replace L := below_step L l88
        refine E.GL.run rfl rfl rfl (E.Runs.move rfl rfl) ?_
        refine E.GL.run rfl rfl rfl (E.Runs.neq rfl rfl rfl (E.ne_f hbo)) ?_
        refine E.GL.run rfl rfl rfl (E.Runs.pick_f rfl rfl rfl) ?_
        refine E.GL.done ?_
        refine E.QG.code ?_
        refine E.CG.cond_f rfl ?_
        refine E.CG.skip ?_
        refine E.QG.code ?_
        refine E.CG.seq ?_
        refine E.CG.seq ?_
        refine E.CG.list ?_
        refine E.GL.run rfl rfl rfl (E.Runs.loads (cs := [.slice A ps.length c, .slice B qs.length d]) rfl rfl hu25 rfl info25s (blk_cells b3)) ?_
        refine E.GL.run rfl rfl rfl (E.Runs.move rfl rfl) ?_
        refine E.GL.run rfl rfl rfl (E.Runs.fieldAddr rfl rfl hu59 rfl (by assumption) rfl) ?_
        refine E.GL.run rfl rfl rfl (E.Runs.load1 rfl rfl hu22 rfl (by first | assumption | exact E.blkc (by assumption) rfl | exact pw_cell_below L (by assumption))) ?_
        by_cases h96 : HrsOk ps.length T hs
        · have hble := hrs_le (hs := hs) hH hIs
          refine E.GL.st rfl rfl rfl (E.ST.call rfl ent35 (E.evc rfl (E.evc rfl (E.evc rfl E.evn))) ((areHours_calls ps qs A B D c d k2 T hs true (iff_of_true rfl h96) _ (Kd.C_below hY L) (by omega) (by omega)).mono ?_))
          rintro e w96 ⟨rfl, l96⟩
          refine ⟨_, rfl, ?_⟩
          replace b3 := blk_below b3 l96
          replace b5 := blk_below b5 l96
          replace R41 := Kd.R_below R41 l96
          replace R47 := Kd.R_below R47 l96
          replace L := below_step L l96
          refine E.GL.run rfl rfl rfl (E.Runs.move rfl rfl) ?_
          refine E.GL.run rfl rfl rfl (E.Runs.loads (cs := [.slice A ps.length c, .slice B qs.length d]) rfl rfl hu25 rfl info25s (blk_cells b3)) ?_
          refine E.GL.run rfl rfl rfl (E.Runs.move rfl rfl) ?_
          refine E.GL.run rfl rfl rfl (E.Runs.fieldAddr rfl rfl hu59 rfl (by assumption) rfl) ?_
          refine E.GL.run rfl rfl rfl (E.Runs.load1 rfl rfl hu22 rfl (by first | assumption | exact E.blkc (by assumption) rfl | exact pw_cell_below L (by assumption))) ?_
          refine E.GL.st rfl rfl rfl (E.ST.call rfl ent36 (E.evc rfl (E.evc rfl (E.evc rfl E.evn))) ((bound_calls ps qs A B D c d k2 T hs hH h96 _ (Kd.C_below hP L) (Kd.C_below hQ L) (Kd.C_below hY L) hT).mono ?_))
          rintro e w102 ⟨rfl, l102⟩
          refine ⟨_, rfl, ?_⟩
          replace b3 := blk_below b3 l102
          replace b5 := blk_below b5 l102
          replace R41 := Kd.R_below R41 l102
          replace R47 := Kd.R_below R47 l102
          replace L := below_step L l102
          refine E.GL.run rfl rfl rfl (E.Runs.move rfl rfl) ?_
          refine E.GL.run rfl rfl rfl (E.Runs.lss rfl rfl rfl (decide_eq_false (by omega))) ?_
          refine E.GL.run rfl rfl rfl (E.Runs.pick_t rfl rfl rfl) ?_
          refine E.GL.done ?_
          refine E.QG.code ?_
          refine E.CG.cond_f rfl ?_
          refine E.CG.skip ?_
          refine E.QG.code ?_
          refine E.CG.seq ?_
          refine E.CG.seq ?_
          refine E.CG.list ?_
          refine E.GL.run rfl rfl rfl (E.Runs.loads (cs := [.slice A ps.length c, .slice B qs.length d]) rfl rfl hu25 rfl info25s (blk_cells b3)) ?_
          refine E.GL.run rfl rfl rfl (E.Runs.move rfl rfl) ?_
          refine E.GL.run rfl rfl rfl (E.Runs.fieldAddr rfl rfl hu59 rfl (by assumption) rfl) ?_
          refine E.GL.run rfl rfl rfl (E.Runs.load1 rfl rfl hu26 rfl (by first | assumption | exact E.blkc (by assumption) rfl | exact pw_cell_below L (by assumption))) ?_
          by_cases h110 : IsPl ps qs T l
          · refine E.GL.st rfl rfl rfl (E.ST.call rfl ent33 (E.evc rfl (E.evc rfl (E.evc rfl E.evn))) ((isPlan_calls ps qs A B C c d k1 T l true hH (iff_of_true rfl h110) _ (Kd.C_below hP L) (Kd.C_below hQ L) (Kd.C_below hX L) (by omega) hT).mono ?_))
            rintro e w110 ⟨rfl, l110⟩
            refine ⟨_, rfl, ?_⟩
            replace b3 := blk_below b3 l110
            replace b5 := blk_below b5 l110
            replace R41 := Kd.R_below R41 l110
            replace R47 := Kd.R_below R47 l110
            replace L := below_step L l110
            refine E.GL.run rfl rfl rfl (E.Runs.not rfl rfl) ?_
            refine E.GL.done ?_
            refine E.QG.code ?_
            refine E.CG.cond_f rfl ?_
            refine E.CG.skip ?_
            refine E.QG.code ?_
            refine E.CG.seq ?_
            refine E.CG.list ?_
            refine E.GL.run rfl rfl rfl (E.Runs.loads (cs := [.slice A ps.length c, .slice B qs.length d]) rfl rfl hu25 rfl info25s (blk_cells b3)) ?_
            refine E.GL.run rfl rfl rfl (E.Runs.move rfl rfl) ?_
            refine E.GL.run rfl rfl rfl (E.Runs.fieldAddr rfl rfl hu59 rfl (by assumption) rfl) ?_
            refine E.GL.run rfl rfl rfl (E.Runs.load1 rfl rfl hu26 rfl (by first | assumption | exact E.blkc (by assumption) rfl | exact pw_cell_below L (by assumption))) ?_
            refine E.GL.st rfl rfl rfl (E.ST.call rfl ent16 (E.evc rfl (E.evc rfl (E.evc rfl E.evn))) ((goneP_calls ps qs A B C c d k1 T l _ (Kd.C_below hP L) (Kd.C_below hQ L) (Kd.C_below hX L) (by omega) (by omega) (by omega)).mono ?_))
            rintro e w118 ⟨N118, E118, rfl, hG118, l118⟩
            refine ⟨_, rfl, ?_⟩
            replace b3 := blk_below b3 l118
            replace b5 := blk_below b5 l118
            replace R41 := Kd.R_below R41 l118
            replace R47 := Kd.R_below R47 l118
            replace L := below_step L l118
            obtain ⟨hg1, hg2⟩ := (hG118.2 hE0).1 (by rw [Int.toNat_natCast]; exact h110)
            subst hg1 hg2
            have hle := h110.le hH hIs
            refine E.GL.run rfl rfl rfl (E.Runs.move rfl rfl) ?_
            refine E.GL.run rfl rfl rfl (E.Runs.extract rfl rfl rfl) ?_
            refine E.GL.run rfl rfl rfl (E.Runs.extract rfl rfl rfl) ?_
            refine E.GL.run rfl rfl rfl (E.Runs.assign rfl rfl) ?_
            refine E.GL.run rfl rfl rfl (E.Runs.assign rfl rfl) ?_
            refine E.GL.done ?_
            refine E.QG.code ?_
            refine E.CG.seq ?_
            refine E.CG.list ?_
            refine E.GL.run rfl rfl rfl (E.Runs.move rfl rfl) ?_
            refine E.GL.run rfl rfl rfl (E.Runs.eql rfl rfl rfl (decide_eq_true rfl)) ?_
            refine E.GL.run rfl rfl rfl (E.Runs.move rfl rfl) ?_
            refine E.GL.run rfl rfl rfl (E.Runs.move rfl rfl) ?_
            refine E.GL.run rfl rfl rfl (E.Runs.move rfl rfl) ?_
            refine E.GL.run rfl rfl rfl (E.Runs.leq rfl rfl rfl (decide_eq_true hle)) ?_
            refine E.GL.run rfl rfl rfl (E.Runs.pick_t rfl rfl rfl) ?_
            refine E.GL.run rfl rfl rfl (E.Runs.move rfl rfl) ?_
            refine E.GL.st rfl rfl rfl (E.ST.call rfl ent12 E.evn ((works_calls _).mono ?_))
            rintro e w129 ⟨rfl, l129⟩
            refine ⟨_, rfl, ?_⟩
            replace b3 := blk_below b3 l129
            replace b5 := blk_below b5 l129
            replace R41 := Kd.R_below R41 l129
            replace R47 := Kd.R_below R47 l129
            replace L := below_step L l129
            refine E.GL.run rfl rfl rfl (E.Runs.pick_t rfl rfl rfl) ?_
            refine E.GL.run rfl rfl rfl (E.Runs.assign rfl rfl) ?_
            refine E.GL.done ?_
            refine E.QG.code ?_
            refine E.CG.ret ?_
            exact E.QG.result rfl rfl ⟨rfl, L⟩
          · refine E.GL.st rfl rfl rfl (E.ST.call rfl ent33 (E.evc rfl (E.evc rfl (E.evc rfl E.evn))) ((isPlan_calls ps qs A B C c d k1 T l false hH (iff_of_false Bool.false_ne_true h110) _ (Kd.C_below hP L) (Kd.C_below hQ L) (Kd.C_below hX L) (by omega) hT).mono ?_))
            rintro e w110 ⟨rfl, l110⟩
            refine ⟨_, rfl, ?_⟩
            replace b3 := blk_below b3 l110
            replace b5 := blk_below b5 l110
            replace R41 := Kd.R_below R41 l110
            replace R47 := Kd.R_below R47 l110
            replace L := below_step L l110
            refine E.GL.run rfl rfl rfl (E.Runs.not rfl rfl) ?_
            refine E.GL.done ?_
            refine E.QG.code ?_
            refine E.CG.cond_t rfl ?_
            refine E.CG.seq ?_
            refine E.CG.list ?_
            refine E.GL.st rfl rfl rfl (E.ST.call rfl ent12 E.evn ((works_calls _).mono ?_))
            rintro e w112 ⟨rfl, l112⟩
            refine ⟨_, rfl, ?_⟩
            replace b3 := blk_below b3 l112
            replace b5 := blk_below b5 l112
            replace R41 := Kd.R_below R41 l112
            replace R47 := Kd.R_below R47 l112
            replace L := below_step L l112
            refine E.GL.run rfl rfl rfl (E.Runs.assign rfl rfl) ?_
            refine E.GL.done ?_
            refine E.QG.code ?_
            refine E.CG.ret ?_
            refine E.QG.pass_ret ?_
            exact E.QG.result rfl rfl ⟨rfl, L⟩
        · refine E.GL.st rfl rfl rfl (E.ST.call rfl ent35 (E.evc rfl (E.evc rfl (E.evc rfl E.evn))) ((areHours_calls ps qs A B D c d k2 T hs false (iff_of_false Bool.false_ne_true h96) _ (Kd.C_below hY L) (by omega) (by omega)).mono ?_))
          rintro e w96 ⟨rfl, l96⟩
          refine ⟨_, rfl, ?_⟩
          replace b3 := blk_below b3 l96
          replace b5 := blk_below b5 l96
          replace R41 := Kd.R_below R41 l96
          replace R47 := Kd.R_below R47 l96
          replace L := below_step L l96
          refine E.GL.run rfl rfl rfl (E.Runs.move rfl rfl) ?_
          refine E.GL.skip rfl rfl rfl ?_
          refine E.GL.skip rfl rfl rfl ?_
          refine E.GL.skip rfl rfl rfl ?_
          refine E.GL.skip rfl rfl rfl ?_
          refine E.GL.skip rfl rfl rfl ?_
          refine E.GL.skip rfl rfl rfl ?_
          refine E.GL.skip rfl rfl rfl ?_
          refine E.GL.run rfl rfl rfl (E.Runs.pick_f rfl rfl rfl) ?_
          refine E.GL.done ?_
          refine E.QG.code ?_
          refine E.CG.cond_f rfl ?_
          refine E.CG.skip ?_
          refine E.QG.code ?_
          refine E.CG.seq ?_
          refine E.CG.seq ?_
          refine E.CG.list ?_
          refine E.GL.run rfl rfl rfl (E.Runs.loads (cs := [.slice A ps.length c, .slice B qs.length d]) rfl rfl hu25 rfl info25s (blk_cells b3)) ?_
          refine E.GL.run rfl rfl rfl (E.Runs.move rfl rfl) ?_
          refine E.GL.run rfl rfl rfl (E.Runs.fieldAddr rfl rfl hu59 rfl (by assumption) rfl) ?_
          refine E.GL.run rfl rfl rfl (E.Runs.load1 rfl rfl hu26 rfl (by first | assumption | exact E.blkc (by assumption) rfl | exact pw_cell_below L (by assumption))) ?_
          by_cases h110 : IsPl ps qs T l
          · refine E.GL.st rfl rfl rfl (E.ST.call rfl ent33 (E.evc rfl (E.evc rfl (E.evc rfl E.evn))) ((isPlan_calls ps qs A B C c d k1 T l true hH (iff_of_true rfl h110) _ (Kd.C_below hP L) (Kd.C_below hQ L) (Kd.C_below hX L) (by omega) hT).mono ?_))
            rintro e w110 ⟨rfl, l110⟩
            refine ⟨_, rfl, ?_⟩
            replace b3 := blk_below b3 l110
            replace b5 := blk_below b5 l110
            replace R41 := Kd.R_below R41 l110
            replace R47 := Kd.R_below R47 l110
            replace L := below_step L l110
            refine E.GL.run rfl rfl rfl (E.Runs.not rfl rfl) ?_
            refine E.GL.done ?_
            refine E.QG.code ?_
            refine E.CG.cond_f rfl ?_
            refine E.CG.skip ?_
            refine E.QG.code ?_
            refine E.CG.seq ?_
            refine E.CG.list ?_
            refine E.GL.run rfl rfl rfl (E.Runs.loads (cs := [.slice A ps.length c, .slice B qs.length d]) rfl rfl hu25 rfl info25s (blk_cells b3)) ?_
            refine E.GL.run rfl rfl rfl (E.Runs.move rfl rfl) ?_
            refine E.GL.run rfl rfl rfl (E.Runs.fieldAddr rfl rfl hu59 rfl (by assumption) rfl) ?_
            refine E.GL.run rfl rfl rfl (E.Runs.load1 rfl rfl hu26 rfl (by first | assumption | exact E.blkc (by assumption) rfl | exact pw_cell_below L (by assumption))) ?_
            refine E.GL.st rfl rfl rfl (E.ST.call rfl ent16 (E.evc rfl (E.evc rfl (E.evc rfl E.evn))) ((goneP_calls ps qs A B C c d k1 T l _ (Kd.C_below hP L) (Kd.C_below hQ L) (Kd.C_below hX L) (by omega) (by omega) (by omega)).mono ?_))
            rintro e w118 ⟨N118, E118, rfl, hG118, l118⟩
            refine ⟨_, rfl, ?_⟩
            replace b3 := blk_below b3 l118
            replace b5 := blk_below b5 l118
            replace R41 := Kd.R_below R41 l118
            replace R47 := Kd.R_below R47 l118
            replace L := below_step L l118
            obtain ⟨hg1, hg2⟩ := (hG118.2 hE0).1 (by rw [Int.toNat_natCast]; exact h110)
            subst hg1 hg2
            have hle := h110.le hH hIs
            refine E.GL.run rfl rfl rfl (E.Runs.move rfl rfl) ?_
            refine E.GL.run rfl rfl rfl (E.Runs.extract rfl rfl rfl) ?_
            refine E.GL.run rfl rfl rfl (E.Runs.extract rfl rfl rfl) ?_
            refine E.GL.run rfl rfl rfl (E.Runs.assign rfl rfl) ?_
            refine E.GL.run rfl rfl rfl (E.Runs.assign rfl rfl) ?_
            refine E.GL.done ?_
            refine E.QG.code ?_
            refine E.CG.seq ?_
            refine E.CG.list ?_
            refine E.GL.run rfl rfl rfl (E.Runs.move rfl rfl) ?_
            refine E.GL.run rfl rfl rfl (E.Runs.eql rfl rfl rfl (decide_eq_true rfl)) ?_
            refine E.GL.run rfl rfl rfl (E.Runs.move rfl rfl) ?_
            refine E.GL.run rfl rfl rfl (E.Runs.move rfl rfl) ?_
            refine E.GL.run rfl rfl rfl (E.Runs.move rfl rfl) ?_
            refine E.GL.run rfl rfl rfl (E.Runs.leq rfl rfl rfl (decide_eq_true hle)) ?_
            refine E.GL.run rfl rfl rfl (E.Runs.pick_t rfl rfl rfl) ?_
            refine E.GL.run rfl rfl rfl (E.Runs.move rfl rfl) ?_
            refine E.GL.st rfl rfl rfl (E.ST.call rfl ent12 E.evn ((works_calls _).mono ?_))
            rintro e w129 ⟨rfl, l129⟩
            refine ⟨_, rfl, ?_⟩
            replace b3 := blk_below b3 l129
            replace b5 := blk_below b5 l129
            replace R41 := Kd.R_below R41 l129
            replace R47 := Kd.R_below R47 l129
            replace L := below_step L l129
            refine E.GL.run rfl rfl rfl (E.Runs.pick_t rfl rfl rfl) ?_
            refine E.GL.run rfl rfl rfl (E.Runs.assign rfl rfl) ?_
            refine E.GL.done ?_
            refine E.QG.code ?_
            refine E.CG.ret ?_
            exact E.QG.result rfl rfl ⟨rfl, L⟩
          · refine E.GL.st rfl rfl rfl (E.ST.call rfl ent33 (E.evc rfl (E.evc rfl (E.evc rfl E.evn))) ((isPlan_calls ps qs A B C c d k1 T l false hH (iff_of_false Bool.false_ne_true h110) _ (Kd.C_below hP L) (Kd.C_below hQ L) (Kd.C_below hX L) (by omega) hT).mono ?_))
            rintro e w110 ⟨rfl, l110⟩
            refine ⟨_, rfl, ?_⟩
            replace b3 := blk_below b3 l110
            replace b5 := blk_below b5 l110
            replace R41 := Kd.R_below R41 l110
            replace R47 := Kd.R_below R47 l110
            replace L := below_step L l110
            refine E.GL.run rfl rfl rfl (E.Runs.not rfl rfl) ?_
            refine E.GL.done ?_
            refine E.QG.code ?_
            refine E.CG.cond_t rfl ?_
            refine E.CG.seq ?_
            refine E.CG.list ?_
            refine E.GL.st rfl rfl rfl (E.ST.call rfl ent12 E.evn ((works_calls _).mono ?_))
            rintro e w112 ⟨rfl, l112⟩
            refine ⟨_, rfl, ?_⟩
            replace b3 := blk_below b3 l112
            replace b5 := blk_below b5 l112
            replace R41 := Kd.R_below R41 l112
            replace R47 := Kd.R_below R47 l112
            replace L := below_step L l112
            refine E.GL.run rfl rfl rfl (E.Runs.assign rfl rfl) ?_
            refine E.GL.done ?_
            refine E.QG.code ?_
            refine E.CG.ret ?_
            refine E.QG.pass_ret ?_
            exact E.QG.result rfl rfl ⟨rfl, L⟩
  · refine E.GL.st rfl rfl rfl (E.ST.call rfl ent27 (E.evc rfl (E.evc rfl E.evn)) ((ready_calls ps qs A B c d _ false (Kd.C_below hP L) (Kd.C_below hQ L) m1 (iff_of_false Bool.false_ne_true h17)).mono ?_))
    rintro e w17 ⟨rfl, l17⟩
    refine ⟨_, rfl, ?_⟩
    replace b3 := blk_below b3 l17
    replace b5 := blk_below b5 l17
    replace L := below_step L l17
    refine E.GL.run rfl rfl rfl (E.Runs.not rfl rfl) ?_
    refine E.GL.run rfl rfl rfl (E.Runs.move rfl rfl) ?_
    refine E.GL.skip rfl rfl rfl ?_
    refine E.GL.skip rfl rfl rfl ?_
    refine E.GL.skip rfl rfl rfl ?_
    refine E.GL.skip rfl rfl rfl ?_
    refine E.GL.run rfl rfl rfl (E.Runs.pick_t rfl rfl rfl) ?_
    refine E.GL.run rfl rfl rfl (E.Runs.move rfl rfl) ?_
    refine E.GL.skip rfl rfl rfl ?_
    refine E.GL.skip rfl rfl rfl ?_
    refine E.GL.skip rfl rfl rfl ?_
    refine E.GL.skip rfl rfl rfl ?_
    refine E.GL.run rfl rfl rfl (E.Runs.pick_t rfl rfl rfl) ?_
    refine E.GL.done ?_
    refine E.QG.code ?_
    refine E.CG.cond_t rfl ?_
    refine E.CG.seq ?_
    refine E.CG.list ?_
    refine E.GL.st rfl rfl rfl (E.ST.call rfl ent12 E.evn ((works_calls _).mono ?_))
    rintro e w31 ⟨rfl, l31⟩
    refine ⟨_, rfl, ?_⟩
    replace b3 := blk_below b3 l31
    replace b5 := blk_below b5 l31
    replace L := below_step L l31
    refine E.GL.run rfl rfl rfl (E.Runs.assign rfl rfl) ?_
    refine E.GL.done ?_
    refine E.QG.code ?_
    refine E.CG.ret ?_
    refine E.QG.pass_ret ?_
    exact E.QG.result rfl rfl ⟨rfl, L⟩

end Go.Proofs.Ytmnjlnkfihklgaa.T
namespace Go.Proofs.Ytmnjlnkfihklgaa.T
open Go.ChangeShapes Go.WideShapes Go.ChangeAt Go.Deep
open Go.RowKit Go.Proofs.YtmnjlnkfihklgaaW.PrintWords Go.Proofs.YtmnjlnkfihklgaaW.PrintMore
open Go.Proofs.Ytmnjlnkfihklgaa.P
set_option linter.unusedVariables false
set_option linter.unusedSimpArgs false

section
variable {X : Type} {enc : TypeId × Value → X} {w : World} {base : Nat} {spare : Nat → Bool} {held : Bool}
theorem fld {fs : Array Field} {n : Nat} {cs : List Value} {xs : List (DataW X × List MemPlace)} (hlen : xs.length = fs.size) (hg : ∀ (i : Nat) (f : Field), fs[i]? = some f → DataW.trod enc Try.prog w base spare held n f.type ((cs.drop f.offset).take (Try.prog.cellsOf f.type)) = xs[i]?) (i : Nat) (f : Field) (hf : fs[i]? = some f)
    (ty : TypeId) (off k : Nat) (h1 : f.type = ty) (h2 : f.offset = off) (h3 : Try.prog.cellsOf ty = k) :
    ∃ y, DataW.trod enc Try.prog w base spare held n ty ((cs.drop off).take k) = some y := by
  have hi : i < xs.length := by rw [hlen]; exact (Array.getElem?_eq_some_iff.1 hf).1
  subst h1 h2 h3
  exact ⟨_, (hg i f hf).trans (List.getElem?_eq_getElem hi)⟩

theorem cells3 : Try.prog.cellsOf 3 = 1 := by kernel_rfl

theorem trod3 {n : Nat} {cs : List Value} {x : DataW X × List MemPlace} (h : DataW.trod enc Try.prog w base spare held n 3 cs = some x) : ∃ (a : Int), cs = [.int .i64 a] := by
  obtain ⟨a, hc, _⟩ := DataW.trod_int Try.underlying3 h
  exact ⟨a, hc⟩

set_option maxRecDepth 100000 in
theorem int_open {r : Reach} {b0 : Nat} {v : Value} {d : DataW X} {p : List MemPlace} (hval : Value.okWide Try.prog w r b0 3 v) (h : DataW.Trod enc Try.prog w base spare held 3 v d p) : ∃ m : Int, v = .int .i64 m := okWide_int Try.underlying3 hval

theorem cells26 : Try.prog.cellsOf 26 = 1 := by kernel_rfl

theorem cells35 : Try.prog.cellsOf 35 = 3 := by kernel_rfl

theorem list_of3 {cs : List Value} (h : cs.length = 3) : ∃ v0 v1 v2, cs = [v0, v1, v2] := by
  match cs, h with
  | [v0, v1, v2], _ => exact ⟨v0, v1, v2, rfl⟩

theorem trod35 {n : Nat} {cs : List Value} {x : DataW X × List MemPlace} (h : DataW.trod enc Try.prog w base spare held n 35 cs = some x) : ∃ (a_0 : Int) (a_1 : Int) (a_2 : Int), cs = [.int .i64 a_0, .int .i64 a_1, .int .i64 a_2] := by
  obtain ⟨xs, m, _, hx, hl, hlen, hg⟩ := DataW.trod_struct Try.underlying35 h
  rw [cells35] at hl
  obtain ⟨v0, v1, v2, rfl⟩ := list_of3 hl
  obtain ⟨y0, h0⟩ := fld hlen hg 0 _ rfl 3 0 1 rfl rfl cells3
  obtain ⟨y1, h1⟩ := fld hlen hg 1 _ rfl 3 1 1 rfl rfl cells3
  obtain ⟨y2, h2⟩ := fld hlen hg 2 _ rfl 3 2 1 rfl rfl cells3
  obtain ⟨a_0, e0⟩ := trod3 h0
  obtain ⟨a_1, e1⟩ := trod3 h1
  obtain ⟨a_2, e2⟩ := trod3 h2
  simp only [List.drop_zero, List.take_succ_cons, List.take_zero, List.drop_succ_cons, List.cons.injEq, and_true] at e0 e1 e2
  subst e0 e1 e2
  exact ⟨a_0, a_1, a_2, rfl⟩

theorem trod26 {n : Nat} {cs : List Value} {x : DataW X × List MemPlace} (h : DataW.trod enc Try.prog w base spare held n 26 cs = some x) : ∃ (aA : Option Addr) (ac : Nat) (al : List S35), cs = [.slice aA al.length ac] ∧ al.length ≤ ac ∧ Kd.C k35 w aA al.length al := by
  rcases open_slice Try.underlying26 h with ⟨rfl, _⟩ | ⟨a, len, cap, m, k, D, Pl, rfl, hb, hl, hm, hmm, hx, hi⟩
  · exact ⟨none, 0, [], rfl, Nat.le_refl _, rfl, by simp, fun h => absurd h (by simp)⟩
  · have hlm : len ≤ m := by rw [hmm]; split <;> omega
    have H : ∀ i, i < len → ∃ s : S35, w.cells? base (a.add (i * 3)) 3 = some [.int .i64 s.f0, .int .i64 s.f1, .int .i64 s.f2] := by
      intro i hil
      obtain ⟨cs', hc, ht⟩ := hi i (by omega)
      obtain ⟨a_0, a_1, a_2, rfl⟩ := trod35 ht
      rw [cells35] at hc
      exact ⟨⟨a_0, a_1, a_2⟩, hc⟩
    obtain ⟨F, hF⟩ : ∃ F : Nat → S35, ∀ i, i < len → w.cells? base (a.add (i * 3)) 3 = some [.int .i64 (F i).f0, .int .i64 (F i).f1, .int .i64 (F i).f2] := by
      refine ⟨fun i => if h : i < len then (H i h).choose else P.z35, fun i h => ?_⟩
      simp only [dif_pos h]
      exact (H i h).choose_spec
    refine ⟨some a, cap, (List.range len).map F, by simp, by simpa using hl, ?_, ?_, ?_⟩
    · rfl
    · simp only [List.length_map, List.length_range]
      unfold maxLen at hm
      omega
    · intro _
      refine ⟨a, rfl, fun j p hj => ?_⟩
      have hjl : j < len := by
        have := (List.getElem?_eq_some_iff.1 hj).1
        simpa using this
      have hp : p = F j := by
        rw [List.getElem?_map, List.getElem?_range hjl] at hj
        simpa using hj.symm
      subst hp
      refine ⟨[.int .i64 (F j).f0, .int .i64 (F j).f1, .int .i64 (F j).f2], rfl, k35_mk w (F j), ?_⟩
      intro i u hu
      obtain ⟨_, hcl, hat⟩ := World.cells?_some (hF j hjl)
      have hil : i < 3 := (List.getElem?_eq_some_iff.1 hu).1
      have := hat i hil
      rw [Go.Deep.add_add] at this
      rw [show j * (k35).sz + i = j * 3 + i from rfl, this, hu]

theorem cells25 : Try.prog.cellsOf 25 = 2 := by kernel_rfl

theorem cells22 : Try.prog.cellsOf 22 = 1 := by kernel_rfl

theorem trod22 {n : Nat} {cs : List Value} {x : DataW X × List MemPlace} (h : DataW.trod enc Try.prog w base spare held n 22 cs = some x) : ∃ (aA : Option Addr) (ac : Nat) (al : List Int), cs = [.slice aA al.length ac] ∧ al.length ≤ ac ∧ Kd.C (Kd.int .i64) w aA al.length al := by
  rcases open_slice Try.underlying22 h with ⟨rfl, _⟩ | ⟨a, len, cap, m, k, D, Pl, rfl, hb, hl, hm, hmm, hx, hi⟩
  · exact ⟨none, 0, [], rfl, Nat.le_refl _, rfl, by simp, fun h => absurd h (by simp)⟩
  · have hlm : len ≤ m := by rw [hmm]; split <;> omega
    have H : ∀ i, i < len → ∃ s : Int, w.cells? base (a.add (i * 1)) 1 = some [.int .i64 s] := by
      intro i hil
      obtain ⟨cs', hc, ht⟩ := hi i (by omega)
      obtain ⟨a, rfl⟩ := trod3 ht
      rw [cells3] at hc
      exact ⟨a, hc⟩
    obtain ⟨F, hF⟩ : ∃ F : Nat → Int, ∀ i, i < len → w.cells? base (a.add (i * 1)) 1 = some [.int .i64 (F i)] := by
      refine ⟨fun i => if h : i < len then (H i h).choose else 0, fun i h => ?_⟩
      simp only [dif_pos h]
      exact (H i h).choose_spec
    refine ⟨some a, cap, (List.range len).map F, by simp, by simpa using hl, ?_, ?_, ?_⟩
    · rfl
    · simp only [List.length_map, List.length_range]
      unfold maxLen at hm
      omega
    · intro _
      refine ⟨a, rfl, fun j p hj => ?_⟩
      have hjl : j < len := by
        have := (List.getElem?_eq_some_iff.1 hj).1
        simpa using this
      have hp : p = F j := by
        rw [List.getElem?_map, List.getElem?_range hjl] at hj
        simpa using hj.symm
      subst hp
      refine ⟨[.int .i64 (F j)], rfl, rfl, ?_⟩
      intro i u hu
      obtain ⟨_, hcl, hat⟩ := World.cells?_some (hF j hjl)
      have hil : i < 1 := (List.getElem?_eq_some_iff.1 hu).1
      have := hat i hil
      rw [Go.Deep.add_add] at this
      rw [show j * ((Kd.int .i64)).sz + i = j * 1 + i from rfl, this, hu]

theorem cells23 : Try.prog.cellsOf 23 = 1 := by kernel_rfl

theorem cells45 : Try.prog.cellsOf 45 = 4 := by kernel_rfl

theorem list_of4 {cs : List Value} (h : cs.length = 4) : ∃ v0 v1 v2 v3, cs = [v0, v1, v2, v3] := by
  match cs, h with
  | [v0, v1, v2, v3], _ => exact ⟨v0, v1, v2, v3, rfl⟩

theorem trod45 {n : Nat} {cs : List Value} {x : DataW X × List MemPlace} (h : DataW.trod enc Try.prog w base spare held n 45 cs = some x) : ∃ (a_0 : Int) (a_1 : Int) (a_2 : Int) (a_3 : Int), cs = [.int .i64 a_0, .int .i64 a_1, .int .i64 a_2, .int .i64 a_3] := by
  obtain ⟨xs, m, _, hx, hl, hlen, hg⟩ := DataW.trod_struct Try.underlying45 h
  rw [cells45] at hl
  obtain ⟨v0, v1, v2, v3, rfl⟩ := list_of4 hl
  obtain ⟨y0, h0⟩ := fld hlen hg 0 _ rfl 3 0 1 rfl rfl cells3
  obtain ⟨y1, h1⟩ := fld hlen hg 1 _ rfl 3 1 1 rfl rfl cells3
  obtain ⟨y2, h2⟩ := fld hlen hg 2 _ rfl 3 2 1 rfl rfl cells3
  obtain ⟨y3, h3⟩ := fld hlen hg 3 _ rfl 3 3 1 rfl rfl cells3
  obtain ⟨a_0, e0⟩ := trod3 h0
  obtain ⟨a_1, e1⟩ := trod3 h1
  obtain ⟨a_2, e2⟩ := trod3 h2
  obtain ⟨a_3, e3⟩ := trod3 h3
  simp only [List.drop_zero, List.take_succ_cons, List.take_zero, List.drop_succ_cons, List.cons.injEq, and_true] at e0 e1 e2 e3
  subst e0 e1 e2 e3
  exact ⟨a_0, a_1, a_2, a_3, rfl⟩

theorem trod23 {n : Nat} {cs : List Value} {x : DataW X × List MemPlace} (h : DataW.trod enc Try.prog w base spare held n 23 cs = some x) : ∃ (aA : Option Addr) (ac : Nat) (al : List S45), cs = [.slice aA al.length ac] ∧ al.length ≤ ac ∧ Kd.C k45 w aA al.length al := by
  rcases open_slice Try.underlying23 h with ⟨rfl, _⟩ | ⟨a, len, cap, m, k, D, Pl, rfl, hb, hl, hm, hmm, hx, hi⟩
  · exact ⟨none, 0, [], rfl, Nat.le_refl _, rfl, by simp, fun h => absurd h (by simp)⟩
  · have hlm : len ≤ m := by rw [hmm]; split <;> omega
    have H : ∀ i, i < len → ∃ s : S45, w.cells? base (a.add (i * 4)) 4 = some [.int .i64 s.f0, .int .i64 s.f1, .int .i64 s.f2, .int .i64 s.f3] := by
      intro i hil
      obtain ⟨cs', hc, ht⟩ := hi i (by omega)
      obtain ⟨a_0, a_1, a_2, a_3, rfl⟩ := trod45 ht
      rw [cells45] at hc
      exact ⟨⟨a_0, a_1, a_2, a_3⟩, hc⟩
    obtain ⟨F, hF⟩ : ∃ F : Nat → S45, ∀ i, i < len → w.cells? base (a.add (i * 4)) 4 = some [.int .i64 (F i).f0, .int .i64 (F i).f1, .int .i64 (F i).f2, .int .i64 (F i).f3] := by
      refine ⟨fun i => if h : i < len then (H i h).choose else P.z45, fun i h => ?_⟩
      simp only [dif_pos h]
      exact (H i h).choose_spec
    refine ⟨some a, cap, (List.range len).map F, by simp, by simpa using hl, ?_, ?_, ?_⟩
    · rfl
    · simp only [List.length_map, List.length_range]
      unfold maxLen at hm
      omega
    · intro _
      refine ⟨a, rfl, fun j p hj => ?_⟩
      have hjl : j < len := by
        have := (List.getElem?_eq_some_iff.1 hj).1
        simpa using this
      have hp : p = F j := by
        rw [List.getElem?_map, List.getElem?_range hjl] at hj
        simpa using hj.symm
      subst hp
      refine ⟨[.int .i64 (F j).f0, .int .i64 (F j).f1, .int .i64 (F j).f2, .int .i64 (F j).f3], rfl, k45_mk w (F j), ?_⟩
      intro i u hu
      obtain ⟨_, hcl, hat⟩ := World.cells?_some (hF j hjl)
      have hil : i < 4 := (List.getElem?_eq_some_iff.1 hu).1
      have := hat i hil
      rw [Go.Deep.add_add] at this
      rw [show j * (k45).sz + i = j * 4 + i from rfl, this, hu]

theorem list_of2 {cs : List Value} (h : cs.length = 2) : ∃ v0 v1, cs = [v0, v1] := by
  match cs, h with
  | [v0, v1], _ => exact ⟨v0, v1, rfl⟩

theorem trod25 {n : Nat} {cs : List Value} {x : DataW X × List MemPlace} (h : DataW.trod enc Try.prog w base spare held n 25 cs = some x) : ∃ (a_0A : Option Addr) (a_0c : Nat) (a_0l : List Int) (a_1A : Option Addr) (a_1c : Nat) (a_1l : List S45), cs = [.slice a_0A a_0l.length a_0c, .slice a_1A a_1l.length a_1c] ∧ a_0l.length ≤ a_0c ∧ Kd.C (Kd.int .i64) w a_0A a_0l.length a_0l ∧ a_1l.length ≤ a_1c ∧ Kd.C k45 w a_1A a_1l.length a_1l := by
  obtain ⟨xs, m, _, hx, hl, hlen, hg⟩ := DataW.trod_struct Try.underlying25 h
  rw [cells25] at hl
  obtain ⟨v0, v1, rfl⟩ := list_of2 hl
  obtain ⟨y0, h0⟩ := fld hlen hg 0 _ rfl 22 0 1 rfl rfl cells22
  obtain ⟨y1, h1⟩ := fld hlen hg 1 _ rfl 23 1 1 rfl rfl cells23
  obtain ⟨a_0A, a_0c, a_0l, e0, f0_0, f0_1⟩ := trod22 h0
  obtain ⟨a_1A, a_1c, a_1l, e1, f1_0, f1_1⟩ := trod23 h1
  simp only [List.drop_zero, List.take_succ_cons, List.take_zero, List.drop_succ_cons, List.cons.injEq, and_true] at e0 e1
  subst e0 e1
  exact ⟨a_0A, a_0c, a_0l, a_1A, a_1c, a_1l, rfl, f0_0, f0_1, f1_0, f1_1⟩

set_option maxRecDepth 100000 in
theorem house_open {r : Reach} {b0 : Nat} {v : Value} {d : DataW X} {p : List MemPlace} (hval : Value.okWide Try.prog w r b0 25 v) (h : DataW.Trod enc Try.prog w base spare held 25 v d p) : ∃ (a_0A : Option Addr) (a_0c : Nat) (a_0l : List Int) (a_1A : Option Addr) (a_1c : Nat) (a_1l : List S45), v = .agg #[.slice a_0A a_0l.length a_0c, .slice a_1A a_1l.length a_1c] ∧ a_0l.length ≤ a_0c ∧ Kd.C (Kd.int .i64) w a_0A a_0l.length a_0l ∧ a_1l.length ≤ a_1c ∧ Kd.C k45 w a_1A a_1l.length a_1l := by
  obtain ⟨cs, rfl, hsz⟩ := okWide_struct Try.underlying25 hval
  obtain ⟨n, hn⟩ := h
  obtain ⟨a_0A, a_0c, a_0l, a_1A, a_1c, a_1l, hH, f0, f1, f2, f3⟩ := trod25 hn
  obtain ⟨l⟩ := cs
  obtain rfl : l = _ := hH
  exact ⟨a_0A, a_0c, a_0l, a_1A, a_1c, a_1l, rfl, f0, f1, f2, f3⟩

theorem cells59 : Try.prog.cellsOf 59 = 2 := by kernel_rfl

theorem trod59 {n : Nat} {cs : List Value} {x : DataW X × List MemPlace} (h : DataW.trod enc Try.prog w base spare held n 59 cs = some x) : ∃ (a_0A : Option Addr) (a_0c : Nat) (a_0l : List S35) (a_1A : Option Addr) (a_1c : Nat) (a_1l : List Int), cs = [.slice a_0A a_0l.length a_0c, .slice a_1A a_1l.length a_1c] ∧ a_0l.length ≤ a_0c ∧ Kd.C k35 w a_0A a_0l.length a_0l ∧ a_1l.length ≤ a_1c ∧ Kd.C (Kd.int .i64) w a_1A a_1l.length a_1l := by
  obtain ⟨xs, m, _, hx, hl, hlen, hg⟩ := DataW.trod_struct Try.underlying59 h
  rw [cells59] at hl
  obtain ⟨v0, v1, rfl⟩ := list_of2 hl
  obtain ⟨y0, h0⟩ := fld hlen hg 0 _ rfl 26 0 1 rfl rfl cells26
  obtain ⟨y1, h1⟩ := fld hlen hg 1 _ rfl 22 1 1 rfl rfl cells22
  obtain ⟨a_0A, a_0c, a_0l, e0, f0_0, f0_1⟩ := trod26 h0
  obtain ⟨a_1A, a_1c, a_1l, e1, f1_0, f1_1⟩ := trod22 h1
  simp only [List.drop_zero, List.take_succ_cons, List.take_zero, List.drop_succ_cons, List.cons.injEq, and_true] at e0 e1
  subst e0 e1
  exact ⟨a_0A, a_0c, a_0l, a_1A, a_1c, a_1l, rfl, f0_0, f0_1, f1_0, f1_1⟩

set_option maxRecDepth 100000 in
theorem escape_open {r : Reach} {b0 : Nat} {v : Value} {d : DataW X} {p : List MemPlace} (hval : Value.okWide Try.prog w r b0 59 v) (h : DataW.Trod enc Try.prog w base spare held 59 v d p) : ∃ (a_0A : Option Addr) (a_0c : Nat) (a_0l : List S35) (a_1A : Option Addr) (a_1c : Nat) (a_1l : List Int), v = .agg #[.slice a_0A a_0l.length a_0c, .slice a_1A a_1l.length a_1c] ∧ a_0l.length ≤ a_0c ∧ Kd.C k35 w a_0A a_0l.length a_0l ∧ a_1l.length ≤ a_1c ∧ Kd.C (Kd.int .i64) w a_1A a_1l.length a_1l := by
  obtain ⟨cs, rfl, hsz⟩ := okWide_struct Try.underlying59 hval
  obtain ⟨n, hn⟩ := h
  obtain ⟨a_0A, a_0c, a_0l, a_1A, a_1c, a_1l, hH, f0, f1, f2, f3⟩ := trod59 hn
  obtain ⟨l⟩ := cs
  obtain rfl : l = _ := hH
  exact ⟨a_0A, a_0c, a_0l, a_1A, a_1c, a_1l, rfl, f0, f1, f2, f3⟩

end

end Go.Proofs.Ytmnjlnkfihklgaa.T
