/- The morning of a house: the walk of 'begin'. -/
import Derived.Test.YthdbkhdiaehblaaT2
import Derived.Outline
import Derived.Lib.Hide
import Derived.Laws.EntriesVeiled
namespace Go.Proofs.Ythdbkhdiaehblaa.T
open Go.RowKit Go.Proofs.YthdbkhdiaehblaaW.PrintWords Go.Proofs.YthdbkhdiaehblaaW.PrintMore
open Go.Proofs.Ythdbkhdiaehblaa.P
/-- A day whose first screens and teams are set. -/
def dayAt (i j : Nat) : Day := ⟨List.replicate i (-1) ++ List.replicate (6 - i) 0, List.replicate j (-1) ++ List.replicate (4 - j) 0⟩
theorem dayAt_clean (i j : Nat) (h : i < 6) : (dayAt i j).clean.set i (-1) = (dayAt (i + 1) j).clean := by
  unfold dayAt
  obtain rfl | rfl | rfl | rfl | rfl | rfl : i = 0 ∨ i = 1 ∨ i = 2 ∨ i = 3 ∨ i = 4 ∨ i = 5 := by omega
  all_goals rfl
theorem dayAt_done (i j : Nat) (h : j < 4) : (dayAt i j).done.set j (-1) = (dayAt i (j + 1)).done := by
  unfold dayAt
  obtain rfl | rfl | rfl | rfl : j = 0 ∨ j = 1 ∨ j = 2 ∨ j = 3 := by omega
  all_goals rfl
theorem dayAt_lens (i j : Nat) (h : i ≤ 6) (k : j ≤ 4) : (dayAt i j).clean.length = 6 ∧ (dayAt i j).done.length = 4 := by
  unfold dayAt
  simp
  omega
theorem info99 : (Try.prog.info? 99).map (·.size) = some 21 := by kernel_rfl
set_option maxRecDepth 100000 in
set_option maxHeartbeats 2000000 in
theorem begin_calls (p : Pc) (H : Hs) (w : World) :
    Calls Try.prog 58 #[hv H, pv p] w fun e w' => e = .returned (.agg (dayCells p H (dayAt 6 4))) ∧ Below w.heap.size w w' := by
  have hu25 := Try.underlying25
  have hu99 := Try.underlying99
  have hu80 := Try.underlying80
  have hu96 := Try.underlying96
  have hu97 := Try.underlying97
  go_enter Try.func58, Try.ntmps58
  go_wp2_with (first
    | ((with_reducible refine gate_dst (N := 2) rfl ?_); refine box_event ?hg (N := 2) ?hd (cs := #[.int .i64 H.teams, .int .i64 H.walk, .int .i64 H.early, .int .i64 H.foyer, .int .i64 H.dl, .int .i64 H.dh, .int .i64 H.cl, .int .i64 H.ch]) (t := 25) ?hr ?_; (case hd => rfl); (case hg => rfl); (case hr => first | (go_simp; done) | (go_simp; rfl)); intro g2 e2 w2 b2 l2; have L2 := Aside0.mk l2; have B2 := Aside0.mk b2; have E2 := Lib.hid e2; clear l2 b2 e2)
    | ((with_reducible refine gate_dst (N := 3) rfl ?_); refine box_event ?hg (N := 3) ?hd (cs := #[.func (.func p.fn) #[] #[], .int .i64 p.cl, .int .i64 p.ra]) (t := 80) ?hr ?_; (case hd => rfl); (case hg => rfl); (case hr => first | (go_simp; done) | (go_simp; rfl)); intro g3 e3 w3 b3 l3; have L3 := Aside0.mk l3; have B3 := Aside0.mk b3; have E3 := Lib.hid e3; clear l3 b3 e3)
    | ((with_reducible refine gate_dst (N := 4) rfl ?_); refine box_event ?hg (N := 4) ?hd (cs := #[.int .i64 0, .int .i64 0, .int .i64 0, .int .i64 0, .int .i64 0, .int .i64 0, .int .i64 0, .int .i64 0, .nilFunc, .int .i64 0, .int .i64 0, .int .i64 0, .int .i64 0, .int .i64 0, .int .i64 0, .int .i64 0, .int .i64 0, .int .i64 0, .int .i64 0, .int .i64 0, .int .i64 0]) (t := 99) ?hr ?_; (case hd => rfl); (case hg => rfl); (case hr => first | (go_simp; done) | (go_simp; rfl)); intro g4 e4 w4 b4 l4; have L4 := Aside0.mk l4; have B4 := Aside0.mk b4; have E4 := Lib.hid e4; clear l4 b4 e4;
        have d3 := blk_below B3.out L4.out; have d2 := blk_below (blk_below B2.out L3.out) L4.out; have c0 := blk_cell d2 0; have c1 := blk_cell d2 1; have c2 := blk_cell d2 2; have c3 := blk_cell d2 3; have c4 := blk_cell d2 4; have c5 := blk_cell d2 5; have c6 := blk_cell d2 6; have c7 := blk_cell d2 7; have c8 := blk_cell d3 0; have c9 := blk_cell d3 1; have c10 := blk_cell d3 2; clear d2 d3)
    | ((with_reducible refine gate_dst (N := 5) rfl ?_); refine box_event ?hg (N := 5) ?hd (cs := #[.int .i64 0, .int .i64 0, .int .i64 0, .int .i64 0, .int .i64 0, .int .i64 0, .int .i64 0, .int .i64 0, .nilFunc, .int .i64 0, .int .i64 0, .int .i64 0, .int .i64 0, .int .i64 0, .int .i64 0, .int .i64 0, .int .i64 0, .int .i64 0, .int .i64 0, .int .i64 0, .int .i64 0]) (t := 99) ?hr ?_; (case hd => rfl); (case hg => rfl); (case hr => first | (go_simp; done) | (go_simp; rfl)); intro g5 e5 w5 b5 l5; have L5 := Aside0.mk l5; have B5 := Aside0.mk b5; have E5 := Lib.hid e5; clear l5 b5 e5)
    | (refine store_whole rfl 99 (.tmp 5) (.tmp 10) rfl g5 (dayCells p H (dayAt 0 0)) _ 99 rfl rfl B5.out rfl info99 dayCells_one ?_; intro w6 b6 l6; have L6 := Aside0.mk l6; have B6 := Aside0.mk b6; clear l6 b6))
  have lt45 : g4 < g5 := by rw [E5.out]; exact blk_lt B4.out
  have HB : Aside0 (Below w.heap.size w w6) := by
    have h5 : Below w.heap.size w w5 := below_step (below_step (below_step L2.out L3.out) L4.out) L5.out
    have h2 : w.heap.size ≤ g5 := by rw [E5.out]; exact (below_step (below_step L2.out L3.out) L4.out).size
    exact ⟨pw_below_grown h5 (some g5) h5.size L6.out (by rintro k ⟨⟩; exact h2)⟩
  have GE : Aside0 (w.heap.size ≤ g5 ∧ w.heap.size ≤ g4) := by
    refine ⟨?_, ?_⟩
    · rw [E5.out]; exact (below_step (below_step L2.out L3.out) L4.out).size
    · rw [E4.out]; exact (below_step L2.out L3.out).size
  have Z4 : Aside0 (w6.heap[g4]? = some (.cells #[.int .i64 0, .int .i64 0, .int .i64 0, .int .i64 0, .int .i64 0, .int .i64 0, .int .i64 0, .int .i64 0, .nilFunc, .int .i64 0, .int .i64 0, .int .i64 0, .int .i64 0, .int .i64 0, .int .i64 0, .int .i64 0, .int .i64 0, .int .i64 0, .int .i64 0, .int .i64 0, .int .i64 0] 99 (0, 0))) := ⟨blk_grown (blk_below B4.out L5.out) L6.out (by simp; omega)⟩
  clear c0 c1 c2 c3 c4 c5 c6 c7 c8 c9 c10 L2 L3 L4 L5 L6 B2 B3 B4 B5 E2 E3 E4 E5
  go_loopw [11] (fun v wr => ∃ k : Nat, k ≤ 6 ∧ v = .int .i64 k ∧ Aside0 (wr.heap[g5]? = some (.cells (dayCells p H (dayAt k 0)) 99 (0, 0))) ∧ Aside0 (wr.heap[g4]? = some (.cells #[.int .i64 0, .int .i64 0, .int .i64 0, .int .i64 0, .int .i64 0, .int .i64 0, .int .i64 0, .int .i64 0, .nilFunc, .int .i64 0, .int .i64 0, .int .i64 0, .int .i64 0, .int .i64 0, .int .i64 0, .int .i64 0, .int .i64 0, .int .i64 0, .int .i64 0, .int .i64 0, .int .i64 0] 99 (0, 0))) ∧ Aside0 (Below w.heap.size w wr)) (fun v _ => 6 - (intOf v).toNat)
  case atStart => exact ⟨0, by omega, rfl, B6, Z4, HB⟩
  case round =>
    clear B6 Z4 HB
    obtain ⟨k, hk, rfl, B6, Z4, HB⟩ := hrel
    by_cases hlt : k < 6
    · have c := day_clean B6.out (k : Int) (by omega) (by rw [(dayAt_lens k 0 (by omega) (by omega)).1]; omega)
      simp only [Int.toNat_natCast] at c
      have f := blk_frozen B6.out (11 + k)
      go_wp2
      go_roundw
      case rel =>
        refine ⟨k + 1, by omega, by go_num, ⟨?_⟩, ⟨blk_far Z4.out (by simp; omega) _⟩, ⟨below_set HB.out GE.out.1⟩⟩
        refine blk_put B6.out _ _ ?_
        have e := dayCells_clean (p := p) (H := H) (d := dayAt k 0) (k : Int) (by omega) (by rw [(dayAt_lens k 0 (by omega) (by omega)).1]; omega) (-1)
        simp only [Int.toNat_natCast] at e
        rw [e, dayAt_clean k 0 hlt]
        rfl
      case measure => simp [intOf]; omega
    · obtain rfl : k = 6 := by omega
      go_wp2
      go_loopw [18] (fun v wr => ∃ k : Nat, k ≤ 4 ∧ v = .int .i64 k ∧ Aside0 (wr.heap[g5]? = some (.cells (dayCells p H (dayAt 6 k)) 99 (0, 0))) ∧ Aside0 (wr.heap[g4]? = some (.cells #[.int .i64 0, .int .i64 0, .int .i64 0, .int .i64 0, .int .i64 0, .int .i64 0, .int .i64 0, .int .i64 0, .nilFunc, .int .i64 0, .int .i64 0, .int .i64 0, .int .i64 0, .int .i64 0, .int .i64 0, .int .i64 0, .int .i64 0, .int .i64 0, .int .i64 0, .int .i64 0, .int .i64 0] 99 (0, 0))) ∧ Aside0 (Below w.heap.size w wr)) (fun v _ => 4 - (intOf v).toNat)
      case atStart => exact ⟨0, by omega, rfl, B6, Z4, HB⟩
      case round =>
        clear B6 Z4 HB
        obtain ⟨k, hk, rfl, B6, Z4, HB⟩ := hrel
        by_cases hlt : k < 4
        · have c := day_done B6.out (dayAt_lens 6 k (by omega) (by omega)).1 (k : Int) (by omega) (by rw [(dayAt_lens 6 k (by omega) (by omega)).2]; omega)
          simp only [Int.toNat_natCast] at c
          have f := blk_frozen B6.out (17 + k)
          go_wp2
          go_roundw
          case rel =>
            refine ⟨k + 1, by omega, by go_num, ⟨?_⟩, ⟨blk_far Z4.out (by simp; omega) _⟩, ⟨below_set HB.out GE.out.1⟩⟩
            refine blk_put B6.out _ _ ?_
            have e := dayCells_done (p := p) (H := H) (d := dayAt 6 k) (dayAt_lens 6 k (by omega) (by omega)).1 (k : Int) (by omega) (by rw [(dayAt_lens 6 k (by omega) (by omega)).2]; omega) (-1)
            simp only [Int.toNat_natCast] at e
            rw [e, dayAt_done 6 k hlt]
            rfl
          case measure => simp [intOf]; omega
        · obtain rfl : k = 4 := by omega
          go_wp2_with (first
            | (refine wpList_load_row rfl 99 (.tmp 5) rfl g5 rfl 99 _ (0, 0) _ B6.out Try.underlying99 rfl info99 ?_)
            | (refine store_whole rfl 99 (.tmp 4) (.tmp 25) rfl g4 (dayCells p H (dayAt 6 4)) _ 99 rfl rfl Z4.out rfl info99 dayCells_one ?_; intro w7 b7 l7; have L7 := Aside0.mk l7; have B7 := Aside0.mk b7; clear l7 b7))
          refine bodyPost_ret (results_cell_row rfl _ _ g4 99 (dayCells p H (dayAt 6 4)) (0, 0) _ rfl B7.out Try.underlying99 rfl (by kernel_rfl)) rfl ?_
          refine ⟨rfl, pw_below_grown HB.out (some g4) HB.out.size L7.out ?_⟩
          rintro k ⟨⟩
          exact GE.out.2
end Go.Proofs.Ythdbkhdiaehblaa.T
