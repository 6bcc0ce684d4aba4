/- The examples: what they come to, and the walk of the function that looks at them. -/
import Derived.Test.YthdbkhdiaehblaaT14
import Derived.Test.YthdbkhdiaehblaaU3
import Derived.Outline
namespace Go.Proofs.Ythdbkhdiaehblaa.T
open Go.RowKit Go.Proofs.YthdbkhdiaehblaaW.PrintWords Go.Proofs.YthdbkhdiaehblaaW.PrintMore
open Go.Proofs.Ythdbkhdiaehblaa.P
set_option linter.unusedVariables false
set_option maxRecDepth 100000 in
theorem e_next : nextFrom eH eL eS 2001 0 = (348, 0) := by kernel_rfl
theorem e_wait0 : waitT (pcE eH) eH eL 95 = 10 := by kernel_rfl
theorem e_wait1 : waitT (pcL eH) eH eL 95 = 20 := by kernel_rfl
theorem e_mom : (moments eH eL)[1]? = some ⟨⟨95, 95⟩, ⟨97, 98⟩, ⟨110, 110⟩, ⟨172, 173⟩, ⟨215, 237⟩⟩ := by kernel_rfl
theorem e_valid : Valid eH eL := by
  refine ⟨by decide, by decide, ?_⟩
  intro j _ h
  have : j < 3 := h
  rcases j with _ | _ | _ | j
  · exact (by decide +kernel : SlotOk eH ⟨0, 100, ⟨90, 100⟩, 50, 0⟩ ∧ FollowsOk [] ⟨0, 100, ⟨90, 100⟩, 50, 0⟩)
  · exact (by decide +kernel : SlotOk eH ⟨1, 110, ⟨60, 60⟩, 30, 0⟩ ∧ FollowsOk [⟨0, 100, ⟨90, 100⟩, 50, 0⟩] ⟨1, 110, ⟨60, 60⟩, 30, 0⟩)
  · exact (by decide +kernel : SlotOk eH ⟨0, 230, ⟨90, 95⟩, 40, 0⟩ ∧ FollowsOk [⟨0, 100, ⟨90, 100⟩, 50, 0⟩, ⟨1, 110, ⟨60, 60⟩, 30, 0⟩] ⟨0, 230, ⟨90, 95⟩, 40, 0⟩)
  · omega
theorem e_slot : SlotOk eH eS := by decide
theorem e_read : rd_T34 (moments eH eL) 1 = ⟨⟨95, 95⟩, ⟨97, 98⟩, ⟨110, 110⟩, ⟨172, 173⟩, ⟨215, 237⟩⟩ := by
  unfold rd_T34
  rw [List.getD_eq_getElem?_getD, show ((1 : Int).toNat) = 1 from rfl, e_mom]
  rfl
theorem e_len : (moments eH eL).length = 3 := by rw [moments_length]; rfl
theorem e_cells {w : World} {A : Option Addr} (h : Kd.C k34 w A 3 (moments eH eL)) : ∃ ad, A = some ad ∧ w.cell? ⟨ad.block, ad.off + 10 + 8, none⟩ = some (.int .i64 215) ∧ w.cell? ⟨ad.block, ad.off + 10 + 8 + 1, none⟩ = some (.int .i64 237) := by
  obtain ⟨ad, eA, m0, m1, m2, m3, m4, m5, m6, m7, m8, m9⟩ := at_T34 h 1 (by decide) (by decide)
  rw [e_read] at m8 m9
  exact ⟨ad, eA, m8, m9⟩
theorem e_times (A1 : Option Addr) (c1 : Nat) (w : World) (hr : Kd.C k36 w A1 3 eL) (hc : 3 ≤ c1) :
    Calls Try.prog 15 #[.agg #[.int .i64 1, .int .i64 2, .int .i64 15, .int .i64 40, .int .i64 10, .int .i64 20, .int .i64 10, .int .i64 15], .slice A1 3 c1] w fun e w' => ∃ A c, e = .returned (.tuple #[.slice A 3 c, .int .i64 0]) ∧ Kd.C k34 w' A 3 (moments eH eL) ∧ Below w.heap.size w w' := by
  refine (times_calls eH eL A1 c1 w e_valid hr hc).mono ?_
  rintro e w' ⟨v, rfl, hR, hb⟩
  obtain ⟨A, c, rfl, h1, h2⟩ := R_ready hR
  rw [e_len] at h2 ⊢
  exact ⟨A, c, rfl, h2, hb⟩
theorem e_waiting (A1 : Option Addr) (c1 : Nat) (w : World) (hr : Kd.C k36 w A1 3 eL) (hc : 3 ≤ c1) :
    Calls Try.prog 26 #[.agg #[.int .i64 1, .int .i64 2, .int .i64 15, .int .i64 40, .int .i64 10, .int .i64 20, .int .i64 10, .int .i64 15], .slice A1 3 c1, .int .i64 95] w fun e w' => e = .returned (.tuple #[.agg #[.int .i64 10, .int .i64 20], .int .i64 0]) ∧ Below w.heap.size w w' := by
  have := waiting_ok eH eL 95 A1 c1 w e_valid (by omega) hr hc
  rw [e_wait0, e_wait1] at this
  exact this
theorem e_nexts (A1 : Option Addr) (c1 : Nat) (w : World) (hr : Kd.C k36 w A1 3 eL) (hc : 3 ≤ c1) :
    Calls Try.prog 17 #[.agg #[.int .i64 1, .int .i64 2, .int .i64 15, .int .i64 40, .int .i64 10, .int .i64 20, .int .i64 10, .int .i64 15], .slice A1 3 c1, .agg #[.int .i64 0, .int .i64 0, .int .i64 1, .int .i64 1, .int .i64 40, .int .i64 0]] w fun e w' => e = .returned (.tuple #[.int .i64 348, .int .i64 0]) ∧ Below w.heap.size w w' := by
  have := next_ok eH eL eS A1 c1 w e_valid e_slot (by decide) hr hc
  rw [e_next] at this
  exact this
theorem e_example (w : World) :
    Calls Try.prog 40 #[] w fun e w' => ∃ A c, e = .returned (.tuple #[.agg #[.int .i64 1, .int .i64 2, .int .i64 15, .int .i64 40, .int .i64 10, .int .i64 20, .int .i64 10, .int .i64 15], .slice A 3 c]) ∧ 3 ≤ c ∧ Kd.C k36 w' A 3 eL ∧ Below w.heap.size w w' := example_row w
set_option maxRecDepth 100000 in
set_option maxHeartbeats 2000000 in
theorem works_calls (w : World) : Calls Try.prog 14 #[] w fun e w' => e = .returned (.bool true) ∧ Below w.heap.size w w' := by
  have hu25 := Try.underlying25
  have hu23 := Try.underlying23
  have hu36 := Try.underlying36
  have hu34 := Try.underlying34
  have hu29 := Try.underlying29
  go_enter Try.func14, Try.ntmps14
  go_wp2_with (first
    | (go_at_call 40; refine (e_example _).mono ?_; rintro e w1 ⟨A1, c1, rfl, k1, r1, l1⟩; have K1 := Aside0.mk k1; have R1 := Aside0.mk r1; have L1 := Aside0.mk l1; clear k1 r1 l1)
    | ((with_reducible refine gate_dst (N := 1) rfl ?_); refine box_event ?hg (N := 1) ?hd (cs := #[.int .i64 0, .int .i64 0, .int .i64 0, .int .i64 0, .int .i64 0, .int .i64 0, .int .i64 0, .int .i64 0]) (t := 25) ?hr ?_; (case hd => rfl); (case hg => rfl); (case hr => first | (go_simp; done) | (go_simp; rfl)); intro ga ea wa ba la; have La := Aside0.mk la; have Ba := Aside0.mk ba; have Ga : Aside0 (w1.heap.size ≤ ga) := ⟨Nat.le_of_eq ea.symm⟩; clear la ba ea)
    | (refine store_whole rfl 25 (.tmp 1) (.tmp 11) rfl ga #[.int .i64 1, .int .i64 2, .int .i64 15, .int .i64 40, .int .i64 10, .int .i64 20, .int .i64 10, .int .i64 15] _ 25 rfl rfl Ba.out rfl info25s (eight_one _ _ _ _ _ _ _ _) ?_; intro wb bb lb; have LB := Aside0.mk (new_stored La.out Ga.out lb); have Bb := Aside0.mk bb; have L2 := Aside0.mk (below_step L1.out LB.out); have R2 := Aside0.mk (Kd.C_below R1.out LB.out); clear lb bb; obtain ⟨h0, h1, h2, h3, h4, h5, h6, h7⟩ := house8 (H := eH) Bb.out)
    | (go_at_call 15; refine (e_times _ _ _ R2.out K1.out).mono ?_; rintro e w3 ⟨A3, c3, rfl, r3, l3⟩; have R3 := Aside0.mk r3; have L3 := Aside0.mk (below_step L2.out l3); have B3 := Aside0.mk (blk_below Bb.out l3); have S3 := Aside0.mk (Kd.C_below R2.out l3); clear l3 r3 h0 h1 h2 h3 h4 h5 h6 h7; obtain ⟨h0, h1, h2, h3, h4, h5, h6, h7⟩ := house8 (H := eH) B3.out)
    | (go_at_call 26; refine (e_waiting _ _ _ S3.out K1.out).mono ?_; rintro e w4 ⟨rfl, l4⟩; have L4 := Aside0.mk (below_step L3.out l4); have B4 := Aside0.mk (blk_below B3.out l4); have S4 := Aside0.mk (Kd.C_below S3.out l4); have R4 := Aside0.mk (Kd.C_below R3.out l4); clear l4 h0 h1 h2 h3 h4 h5 h6 h7)
    | ((with_reducible refine gate_dst (N := 5) rfl ?_); refine box_event ?hg (N := 5) ?hd (cs := #[.int .i64 0, .int .i64 0]) (t := 23) ?hr ?_; (case hd => rfl); (case hg => rfl); (case hr => first | (go_simp; done) | (go_simp; rfl)); intro gc ec wc bc lc; have Lc := Aside0.mk lc; have Bc := Aside0.mk bc; have Gc : Aside0 (w4.heap.size ≤ gc) := ⟨Nat.le_of_eq ec.symm⟩; clear lc bc ec)
    | (refine store_whole rfl 23 (.tmp 5) (.tmp 23) rfl gc #[.int .i64 10, .int .i64 20] _ 23 rfl rfl Bc.out rfl info23s (two_one _ _) ?_; intro wd bd ld; have LD := Aside0.mk (new_stored Lc.out Gc.out ld); have Bd := Aside0.mk bd; have L5 := Aside0.mk (below_step L4.out LD.out); have S5 := Aside0.mk (Kd.C_below S4.out LD.out); have R5 := Aside0.mk (Kd.C_below R4.out LD.out); have B5 := Aside0.mk (blk_below B4.out LD.out); clear ld bd; obtain ⟨h0, h1, h2, h3, h4, h5, h6, h7⟩ := house8 (H := eH) B5.out)
    | (go_at_call 17; refine (e_nexts _ _ _ S5.out K1.out).mono ?_; rintro e w6 ⟨rfl, l6⟩; have L6 := Aside0.mk (below_step L5.out l6); have B6 := Aside0.mk (blk_below Bd.out l6); have R6 := Aside0.mk (Kd.C_below R5.out l6); clear l6 h0 h1 h2 h3 h4 h5 h6 h7; obtain ⟨ad, eA, m8, m9⟩ := e_cells R6.out; subst eA; have x0 := blk_cell B6.out 0; have x1 := blk_cell B6.out 1)
    | fail)
  go_ret
  exact ⟨rfl, L6.out⟩
end Go.Proofs.Ythdbkhdiaehblaa.T
