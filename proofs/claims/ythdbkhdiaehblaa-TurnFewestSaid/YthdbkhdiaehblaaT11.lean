/- Waiting: the walk, at each input. -/
import Derived.Test.YthdbkhdiaehblaaT10
import Derived.Outline
namespace Go.Proofs.Ythdbkhdiaehblaa.T
open Go.RowKit Go.Proofs.YthdbkhdiaehblaaW.PrintWords Go.Proofs.YthdbkhdiaehblaaW.PrintMore
open Go.Proofs.Ythdbkhdiaehblaa.P
set_option linter.unusedVariables false
set_option maxRecDepth 100000 in
set_option maxHeartbeats 2000000 in
theorem waiting_bad (H : Hs) (l : List S36) (minute : Int) (A1 : Option Addr) (c1 : Nat) (w : World) (hl : l.length ≤ 1000000000000) (hne : ¬ checkE H l = 0)
    (hr : Kd.C k36 w A1 l.length l) (hc : l.length ≤ c1) :
    Calls Try.prog 26 #[hv H, .slice A1 l.length c1, .int .i64 minute] w fun e w' => e = .returned (.tuple #[.agg #[.int .i64 0, .int .i64 0], .int .i64 (checkE H l)]) ∧ Below w.heap.size w w' := by
  have hu25 := Try.underlying25
  have hu23 := Try.underlying23
  have HC := Aside0.mk (fun (W : World) (h : Kd.C k36 W A1 l.length l) => check_calls H l A1 c1 W hl h hc)
  generalize checkE H l = ev at hne HC
  have HR := Aside0.mk hr
  clear hr
  go_enter Try.func26, Try.ntmps26
  go_wp2_with (first
    | ((with_reducible refine gate_dst (N := 3) rfl ?_); refine box_event ?hg (N := 3) ?hd (cs := #[.int .i64 H.teams, .int .i64 H.walk, .int .i64 H.early, .int .i64 H.foyer, .int .i64 H.dl, .int .i64 H.dh, .int .i64 H.cl, .int .i64 H.ch]) (t := 25) ?hr ?_; (case hd => rfl); (case hg => rfl); (case hr => first | (go_simp; done) | (go_simp; rfl)); intro g3 e3 w3 b3 l3; have L3 := Aside0.mk l3; have B3 := Aside0.mk b3; clear l3 b3 e3)
    | ((with_reducible refine gate_dst (N := 6) rfl ?_); refine box_event ?hg (N := 6) ?hd (cs := #[.int .i64 0, .int .i64 0]) (t := 23) ?hr ?_; (case hd => rfl); (case hg => rfl); (case hr => first | (go_simp; done) | (go_simp; rfl)); intro g6 e6 w6 b6 l6; have L6 := Aside0.mk (below_step L3.out l6); have B6 := Aside0.mk b6; have C3 := Aside0.mk (blk_below B3.out l6); have G6 : Aside0 (w.heap.size ≤ g6) := ⟨by rw [e6]; exact L3.out.size⟩; clear l6 b6 e6; obtain ⟨h0, h1, h2, h3, h4, h5, h6, h7⟩ := house8 C3.out)
    | (go_at_call 29; refine (HC.out _ (Kd.C_below HR.out L6.out)).mono ?_; rintro e w7 ⟨rfl, l7⟩; have L7 := Aside0.mk (below_step L6.out l7); have B7 := Aside0.mk (blk_below B6.out l7); clear l7; have x0 := blk_cell B7.out 0; have x1 := blk_cell B7.out 1; have f0 := blk_frozen B7.out 0; have f1 := blk_frozen B7.out 1))
  refine bodyPost_ret (results_ct rfl _ _ g6 23 #[.int .i64 0, .int .i64 0] (0, 0) _ rfl (blk_put (blk_put B7.out 0 _ rfl) 1 _ rfl) Try.underlying23 rfl (by kernel_rfl)) rfl ⟨rfl, ?_⟩
  exact below_set (below_set L7.out G6.out) G6.out
set_option maxRecDepth 100000 in
set_option maxHeartbeats 2000000 in
theorem waiting_arg (H : Hs) (l : List S36) (minute : Int) (A1 : Option Addr) (c1 : Nat) (w : World) (hv_ : Valid H l) (hm : ¬ (0 ≤ minute ∧ minute ≤ 9999))
    (hr : Kd.C k36 w A1 l.length l) (hc : l.length ≤ c1) :
    Calls Try.prog 26 #[hv H, .slice A1 l.length c1, .int .i64 minute] w fun e w' => e = .returned (.tuple #[.agg #[.int .i64 0, .int .i64 0], .int .i64 1]) ∧ Below w.heap.size w w' := by
  have hu25 := Try.underlying25
  have hu23 := Try.underlying23
  have HC := Aside0.mk (fun (W : World) (h : Kd.C k36 W A1 l.length l) => check_calls H l A1 c1 W (by have := hv_.2.1; omega) h hc)
  rw [(checkE_valid H l).mpr hv_] at HC
  have HR := Aside0.mk hr
  have HM := Aside0.mk (fun W => within_no minute 0 9999 W hm)
  clear hr hm
  go_enter Try.func26, Try.ntmps26
  go_wp2_with (first
    | ((with_reducible refine gate_dst (N := 3) rfl ?_); refine box_event ?hg (N := 3) ?hd (cs := #[.int .i64 H.teams, .int .i64 H.walk, .int .i64 H.early, .int .i64 H.foyer, .int .i64 H.dl, .int .i64 H.dh, .int .i64 H.cl, .int .i64 H.ch]) (t := 25) ?hr ?_; (case hd => rfl); (case hg => rfl); (case hr => first | (go_simp; done) | (go_simp; rfl)); intro g3 e3 w3 b3 l3; have L3 := Aside0.mk l3; have B3 := Aside0.mk b3; clear l3 b3 e3)
    | ((with_reducible refine gate_dst (N := 6) rfl ?_); refine box_event ?hg (N := 6) ?hd (cs := #[.int .i64 0, .int .i64 0]) (t := 23) ?hr ?_; (case hd => rfl); (case hg => rfl); (case hr => first | (go_simp; done) | (go_simp; rfl)); intro g6 e6 w6 b6 l6; have L6 := Aside0.mk (below_step L3.out l6); have B6 := Aside0.mk b6; have C3 := Aside0.mk (blk_below B3.out l6); have G6 : Aside0 (w.heap.size ≤ g6) := ⟨by rw [e6]; exact L3.out.size⟩; clear l6 b6 e6; obtain ⟨h0, h1, h2, h3, h4, h5, h6, h7⟩ := house8 C3.out)
    | (go_at_call 29; refine (HC.out _ (Kd.C_below HR.out L6.out)).mono ?_; rintro e w7 ⟨rfl, l7⟩; have L7 := Aside0.mk (below_step L6.out l7); have B7 := Aside0.mk (blk_below B6.out l7); have C7 := Aside0.mk (blk_below C3.out l7); clear l7 h0 h1 h2 h3 h4 h5 h6 h7)
    | (go_at_call 52; refine (HM.out _).mono ?_; rintro e w8 ⟨rfl, l8⟩; have L8 := Aside0.mk (below_step L7.out l8); have B8 := Aside0.mk (blk_below B7.out l8); clear l8; have x0 := blk_cell B8.out 0; have x1 := blk_cell B8.out 1; have f0 := blk_frozen B8.out 0; have f1 := blk_frozen B8.out 1))
  refine bodyPost_ret (results_ct rfl _ _ g6 23 #[.int .i64 0, .int .i64 0] (0, 0) _ rfl (blk_put (blk_put B8.out 0 _ rfl) 1 _ rfl) Try.underlying23 rfl (by kernel_rfl)) rfl ⟨rfl, ?_⟩
  exact below_set (below_set L8.out G6.out) G6.out
theorem waiting_early (H : Hs) (l : List S36) (minute : Int) (A1 : Option Addr) (c1 : Nat) (w : World) (hh : HouseOk H) (hS : ∀ s ∈ l, SlotIn H s) (hn : l.length ≤ 100) (m0 : 0 ≤ minute) (m1 : minute ≤ 10000) (hr : Kd.C k36 w A1 l.length l) (hc : l.length ≤ c1) :
    Calls Try.prog 53 #[.agg #[.int .i64 H.teams, .int .i64 H.walk, .int .i64 H.early, .int .i64 H.foyer, .int .i64 H.dl, .int .i64 H.dh, .int .i64 H.cl, .int .i64 H.ch], .slice A1 l.length c1, .agg #[.func (.func 61) #[] #[], .int .i64 H.cl, .int .i64 H.dh], .int .i64 minute] w fun e w' => e = .returned (.int .i64 (waitT (pcE H) H l minute)) ∧ Below w.heap.size w w' :=
  waiting_calls (pcE H) H l minute A1 c1 w (fitsE hh) (fun s hs => sfitsE hh (hS s hs)) hn m0 m1 hr hc
theorem waiting_late (H : Hs) (l : List S36) (minute : Int) (A1 : Option Addr) (c1 : Nat) (w : World) (hh : HouseOk H) (hS : ∀ s ∈ l, SlotIn H s) (hn : l.length ≤ 100) (m0 : 0 ≤ minute) (m1 : minute ≤ 10000) (hr : Kd.C k36 w A1 l.length l) (hc : l.length ≤ c1) :
    Calls Try.prog 53 #[.agg #[.int .i64 H.teams, .int .i64 H.walk, .int .i64 H.early, .int .i64 H.foyer, .int .i64 H.dl, .int .i64 H.dh, .int .i64 H.cl, .int .i64 H.ch], .slice A1 l.length c1, .agg #[.func (.func 62) #[] #[], .int .i64 H.ch, .int .i64 H.dl], .int .i64 minute] w fun e w' => e = .returned (.int .i64 (waitT (pcL H) H l minute)) ∧ Below w.heap.size w w' :=
  waiting_calls (pcL H) H l minute A1 c1 w (fitsL hh) (fun s hs => sfitsL hh (hS s hs)) hn m0 m1 hr hc
set_option maxRecDepth 100000 in
set_option maxHeartbeats 2000000 in
theorem waiting_ok (H : Hs) (l : List S36) (minute : Int) (A1 : Option Addr) (c1 : Nat) (w : World) (hv_ : Valid H l) (hm : 0 ≤ minute ∧ minute ≤ 9999)
    (hr : Kd.C k36 w A1 l.length l) (hc : l.length ≤ c1) :
    Calls Try.prog 26 #[hv H, .slice A1 l.length c1, .int .i64 minute] w fun e w' => e = .returned (.tuple #[.agg #[.int .i64 (waitT (pcE H) H l minute), .int .i64 (waitT (pcL H) H l minute)], .int .i64 0]) ∧ Below w.heap.size w w' := by
  have hu25 := Try.underlying25
  have hu23 := Try.underlying23
  have HC := Aside0.mk (fun (W : World) (h : Kd.C k36 W A1 l.length l) => check_calls H l A1 c1 W (by have := hv_.2.1; omega) h hc)
  rw [(checkE_valid H l).mpr hv_] at HC
  have HR := Aside0.mk hr
  have HK := Aside0.mk hc
  have HH := Aside0.mk hv_.1
  have VS := Aside0.mk (valid_slots hv_)
  have hn100 : l.length ≤ 100 := by have := hv_.2.1; omega
  have m0 : 0 ≤ minute := hm.1
  have m1 : minute ≤ 10000 := by omega
  have HM := Aside0.mk (fun W => within_yes minute 0 9999 W hm)
  clear hr hm hv_
  go_enter Try.func26, Try.ntmps26
  go_wp2_with (first
    | ((with_reducible refine gate_dst (N := 3) rfl ?_); refine box_event ?hg (N := 3) ?hd (cs := #[.int .i64 H.teams, .int .i64 H.walk, .int .i64 H.early, .int .i64 H.foyer, .int .i64 H.dl, .int .i64 H.dh, .int .i64 H.cl, .int .i64 H.ch]) (t := 25) ?hr ?_; (case hd => rfl); (case hg => rfl); (case hr => first | (go_simp; done) | (go_simp; rfl)); intro g3 e3 w3 b3 l3; have L3 := Aside0.mk l3; have B3 := Aside0.mk b3; clear l3 b3 e3)
    | ((with_reducible refine gate_dst (N := 6) rfl ?_); refine box_event ?hg (N := 6) ?hd (cs := #[.int .i64 0, .int .i64 0]) (t := 23) ?hr ?_; (case hd => rfl); (case hg => rfl); (case hr => first | (go_simp; done) | (go_simp; rfl)); intro g6 e6 w6 b6 l6; have L6 := Aside0.mk (below_step L3.out l6); have B6 := Aside0.mk b6; have C3 := Aside0.mk (blk_below B3.out l6); have G6 : Aside0 (w.heap.size ≤ g6) := ⟨by rw [e6]; exact L3.out.size⟩; clear l6 b6 e6; obtain ⟨h0, h1, h2, h3, h4, h5, h6, h7⟩ := house8 C3.out)
    | (go_at_call 29; refine (HC.out _ (Kd.C_below HR.out L6.out)).mono ?_; rintro e w7 ⟨rfl, l7⟩; have L7 := Aside0.mk (below_step L6.out l7); have B7 := Aside0.mk (blk_below B6.out l7); have C7 := Aside0.mk (blk_below C3.out l7); clear l7 h0 h1 h2 h3 h4 h5 h6 h7)
    | (go_at_call 52; refine (HM.out _).mono ?_; rintro e w8 ⟨rfl, l8⟩; have L8 := Aside0.mk (below_step L7.out l8); have B8 := Aside0.mk (blk_below B7.out l8); have C8 := Aside0.mk (blk_below C7.out l8); clear l8))
  have L3d := Aside0.mk (below_drew1 L8.out)
  have B3d := Aside0.mk (blk_drew C8.out)
  have D6 := Aside0.mk (blk_drew B8.out)
  clear B3 L3 B6 L6 C3 L7 B7 C7 L8 B8 C8
  go_region_held3 (fun w' => w'.cell? ⟨g3, 0, none⟩ = some (.int .i64 H.teams) ∧ w'.cell? ⟨g3, 1, none⟩ = some (.int .i64 H.walk) ∧ w'.cell? ⟨g3, 2, none⟩ = some (.int .i64 H.early) ∧ w'.cell? ⟨g3, 3, none⟩ = some (.int .i64 H.foyer) ∧
    w'.cell? ⟨g3, 4, none⟩ = some (.int .i64 H.dl) ∧ w'.cell? ⟨g3, 5, none⟩ = some (.int .i64 H.dh) ∧ w'.cell? ⟨g3, 6, none⟩ = some (.int .i64 H.cl) ∧ w'.cell? ⟨g3, 7, none⟩ = some (.int .i64 H.ch))
    (first | exact house8 B3d.out | exact house8 B4.out | exact house8 B5.out | exact house8 B6.out | exact house8 B7.out | exact house8 (blk_far (blk_far B7.out (blk_ne B7.out D7.out (by decide)) _) (blk_ne B7.out D7.out (by decide)) _))
    (first
      | (go_at_call 42; (with_reducible refine (early_calls H _).mono ?_); rintro e w4 ⟨rfl, l4⟩; have L4 := Aside0.mk (below_step L3d.out l4); have B4 := Aside0.mk (blk_below B3d.out l4); have D4 := Aside0.mk (blk_below D6.out l4); clear l4)
      | (go_at_call 43; (with_reducible refine (late_calls H _).mono ?_); rintro e w6 ⟨rfl, l6⟩; have L6 := Aside0.mk (below_step L5.out l6); have B6 := Aside0.mk (blk_below B5.out l6); have D6 := Aside0.mk (blk_below D5.out l6); clear l6)
      | (go_at_call 53; (with_reducible refine (waiting_early H l minute A1 c1 _ HH.out VS.out hn100 m0 m1 (Kd.C_below HR.out L4.out) HK.out).mono ?_); rintro e w5 ⟨rfl, l5⟩; have L5 := Aside0.mk (below_step L4.out l5); have B5 := Aside0.mk (blk_below B4.out l5); have D5 := Aside0.mk (blk_below D4.out l5); clear l5)
      | (go_at_call 53; (with_reducible refine (waiting_late H l minute A1 c1 _ HH.out VS.out hn100 m0 m1 (Kd.C_below HR.out L6.out) HK.out).mono ?_); rintro e w7 ⟨rfl, l7⟩; have L7 := Aside0.mk (below_step L6.out l7); have B7 := Aside0.mk (blk_below B6.out l7); have D7 := Aside0.mk (blk_below D6.out l7); clear l7; have x0 := blk_cell D7.out 0; have x1 := blk_cell D7.out 1; have f0 := blk_frozen D7.out 0; have f1 := blk_frozen D7.out 1))
  go_wp2
  refine bodyPost_ret (results_ct rfl _ _ g6 23 #[.int .i64 (waitT (pcE H) H l minute), .int .i64 (waitT (pcL H) H l minute)] (0, 0) _ rfl (blk_put (blk_put D7.out 0 _ rfl) 1 _ rfl) Try.underlying23 rfl (by kernel_rfl)) rfl ⟨rfl, ?_⟩
  exact below_set (below_set L7.out G6.out) G6.out
end Go.Proofs.Ythdbkhdiaehblaa.T
