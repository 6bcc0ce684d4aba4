/- Next and Times on what is not valid: the walks. -/
import Derived.Test.YthdbkhdiaehblaaT13
import Derived.Outline
namespace Go.Proofs.Ythdbkhdiaehblaa.T
open Go.RowKit Go.Proofs.YthdbkhdiaehblaaW.PrintWords Go.Proofs.YthdbkhdiaehblaaW.PrintMore
open Go.Proofs.Ythdbkhdiaehblaa.P
set_option linter.unusedVariables false
set_option maxRecDepth 100000 in
set_option maxHeartbeats 2000000 in
theorem next_bad (H : Hs) (l : List S36) (s : S36) (A1 : Option Addr) (c1 : Nat) (w : World) (hl : l.length ≤ 1000000000000) (hne : ¬ checkE H l = 0)
    (hr : Kd.C k36 w A1 l.length l) (hc : l.length ≤ c1) :
    Calls Try.prog 17 #[hv H, .slice A1 l.length c1, sv s] w fun e w' => e = .returned (.tuple #[.int .i64 0, .int .i64 (checkE H l)]) ∧ Below w.heap.size w w' := by
  have hu25 := Try.underlying25
  have hu36 := Try.underlying36
  have HC := Aside0.mk (fun (W : World) (h : Kd.C k36 W A1 l.length l) => check_calls H l A1 c1 W hl h hc)
  generalize checkE H l = ev at hne HC
  have HR := Aside0.mk hr
  clear hr
  go_enter Try.func17, Try.ntmps17
  go_wp2_with (first
    | ((with_reducible refine gate_dst (N := 3) rfl ?_); refine box_event ?hg (N := 3) ?hd (cs := #[.int .i64 H.teams, .int .i64 H.walk, .int .i64 H.early, .int .i64 H.foyer, .int .i64 H.dl, .int .i64 H.dh, .int .i64 H.cl, .int .i64 H.ch]) (t := 25) ?hr ?_; (case hd => rfl); (case hg => rfl); (case hr => first | (go_simp; done) | (go_simp; rfl)); intro g3 e3 w3 b3 l3; have L3 := Aside0.mk l3; have B3 := Aside0.mk b3; clear l3 b3 e3)
    | ((with_reducible refine gate_dst (N := 5) rfl ?_); refine box_event ?hg (N := 5) ?hd (cs := #[.int .i64 s.f0, .int .i64 s.f1, .int .i64 s.f2.f0, .int .i64 s.f2.f1, .int .i64 s.f3, .int .i64 s.f4]) (t := 36) ?hr ?_; (case hd => rfl); (case hg => rfl); (case hr => first | (go_simp; done) | (go_simp; rfl)); intro g5 e5 w5 b5 l5; have L5 := Aside0.mk (below_step L3.out l5); have C3 := Aside0.mk (blk_below B3.out l5); have B5 := Aside0.mk b5; have G5 : Aside0 (w.heap.size ≤ g5) := ⟨by rw [e5]; exact L3.out.size⟩; clear l5 b5 e5; obtain ⟨h0, h1, h2, h3, h4, h5, h6, h7⟩ := house8 C3.out)
    | (go_at_call 29; refine (HC.out _ (Kd.C_below HR.out L5.out)).mono ?_; rintro e w6 ⟨rfl, l6⟩; have L6 := Aside0.mk (below_step L5.out l6); have B6 := Aside0.mk (blk_below C3.out l6); have D6 := Aside0.mk (blk_below B5.out l6); clear l6 h0 h1 h2 h3 h4 h5 h6 h7; obtain ⟨h0, h1, h2, h3, h4, h5, h6, h7⟩ := house8 B6.out; obtain ⟨t0, t1, t2, t3, t4, t5⟩ := slot6 D6.out)
    | fail)
  go_ret2
  exact ⟨rfl, L6.out⟩
set_option maxRecDepth 100000 in
set_option maxHeartbeats 2000000 in
theorem next_arg (H : Hs) (l : List S36) (s : S36) (A1 : Option Addr) (c1 : Nat) (w : World) (hv_ : Valid H l) (hs : ¬ SlotOk H s)
    (hr : Kd.C k36 w A1 l.length l) (hc : l.length ≤ c1) :
    Calls Try.prog 17 #[hv H, .slice A1 l.length c1, sv s] w fun e w' => e = .returned (.tuple #[.int .i64 0, .int .i64 1]) ∧ Below w.heap.size w w' := by
  have hu25 := Try.underlying25
  have hu36 := Try.underlying36
  have hE : checkE H l = 0 := (checkE_valid H l).mpr hv_
  have hck := fun (W : World) (h : Kd.C k36 W A1 l.length l) => check_calls H l A1 c1 W (by have := hv_.2.1; omega) h hc
  rw [hE] at hck
  have HC := Aside0.mk hck
  have SY := Aside0.mk (fun W => slot_no H s W hv_.1 hs)
  have HR := Aside0.mk hr
  clear hr hv_ hck hE hc hs
  go_enter Try.func17, Try.ntmps17
  go_wp2_with (first
    | ((with_reducible refine gate_dst (N := 3) rfl ?_); refine box_event ?hg (N := 3) ?hd (cs := #[.int .i64 H.teams, .int .i64 H.walk, .int .i64 H.early, .int .i64 H.foyer, .int .i64 H.dl, .int .i64 H.dh, .int .i64 H.cl, .int .i64 H.ch]) (t := 25) ?hr ?_; (case hd => rfl); (case hg => rfl); (case hr => first | (go_simp; done) | (go_simp; rfl)); intro g3 e3 w3 b3 l3; have L3 := Aside0.mk l3; have B3 := Aside0.mk b3; clear l3 b3 e3)
    | ((with_reducible refine gate_dst (N := 5) rfl ?_); refine box_event ?hg (N := 5) ?hd (cs := #[.int .i64 s.f0, .int .i64 s.f1, .int .i64 s.f2.f0, .int .i64 s.f2.f1, .int .i64 s.f3, .int .i64 s.f4]) (t := 36) ?hr ?_; (case hd => rfl); (case hg => rfl); (case hr => first | (go_simp; done) | (go_simp; rfl)); intro g5 e5 w5 b5 l5; have L5 := Aside0.mk (below_step L3.out l5); have C3 := Aside0.mk (blk_below B3.out l5); have B5 := Aside0.mk b5; have G5 : Aside0 (w.heap.size ≤ g5) := ⟨by rw [e5]; exact L3.out.size⟩; clear l5 b5 e5; obtain ⟨h0, h1, h2, h3, h4, h5, h6, h7⟩ := house8 C3.out)
    | (go_at_call 29; refine (HC.out _ (Kd.C_below HR.out L5.out)).mono ?_; rintro e w6 ⟨rfl, l6⟩; have L6 := Aside0.mk (below_step L5.out l6); have B6 := Aside0.mk (blk_below C3.out l6); have D6 := Aside0.mk (blk_below B5.out l6); clear l6 h0 h1 h2 h3 h4 h5 h6 h7; obtain ⟨h0, h1, h2, h3, h4, h5, h6, h7⟩ := house8 B6.out; obtain ⟨t0, t1, t2, t3, t4, t5⟩ := slot6 D6.out)
    | (go_at_call 46; refine (SY.out _).mono ?_; rintro e w7 ⟨rfl, l7⟩; have L7 := Aside0.mk (below_step L6.out l7); clear l7)
    | fail)
  go_ret2
  exact ⟨rfl, L7.out⟩
set_option maxRecDepth 100000 in
set_option maxHeartbeats 2000000 in
theorem next_full (H : Hs) (l : List S36) (s : S36) (A1 : Option Addr) (c1 : Nat) (w : World) (hv_ : Valid H l) (hs : SlotOk H s) (hlt : 12 ≤ l.length)
    (hr : Kd.C k36 w A1 l.length l) (hc : l.length ≤ c1) :
    Calls Try.prog 17 #[hv H, .slice A1 l.length c1, sv s] w fun e w' => e = .returned (.tuple #[.int .i64 0, .int .i64 1]) ∧ Below w.heap.size w w' := by
  have hu25 := Try.underlying25
  have hu36 := Try.underlying36
  have hE : checkE H l = 0 := (checkE_valid H l).mpr hv_
  have hck := fun (W : World) (h : Kd.C k36 W A1 l.length l) => check_calls H l A1 c1 W (by have := hv_.2.1; omega) h hc
  rw [hE] at hck
  have HC := Aside0.mk hck
  have SY := Aside0.mk (fun W => slot_yes H s W hv_.1 hs)
  have hn : (12 : Int) ≤ l.length := by omega
  have HR := Aside0.mk hr
  clear hr hv_ hck hE hc hs
  go_enter Try.func17, Try.ntmps17
  go_wp2_with (first
    | ((with_reducible refine gate_dst (N := 3) rfl ?_); refine box_event ?hg (N := 3) ?hd (cs := #[.int .i64 H.teams, .int .i64 H.walk, .int .i64 H.early, .int .i64 H.foyer, .int .i64 H.dl, .int .i64 H.dh, .int .i64 H.cl, .int .i64 H.ch]) (t := 25) ?hr ?_; (case hd => rfl); (case hg => rfl); (case hr => first | (go_simp; done) | (go_simp; rfl)); intro g3 e3 w3 b3 l3; have L3 := Aside0.mk l3; have B3 := Aside0.mk b3; clear l3 b3 e3)
    | ((with_reducible refine gate_dst (N := 5) rfl ?_); refine box_event ?hg (N := 5) ?hd (cs := #[.int .i64 s.f0, .int .i64 s.f1, .int .i64 s.f2.f0, .int .i64 s.f2.f1, .int .i64 s.f3, .int .i64 s.f4]) (t := 36) ?hr ?_; (case hd => rfl); (case hg => rfl); (case hr => first | (go_simp; done) | (go_simp; rfl)); intro g5 e5 w5 b5 l5; have L5 := Aside0.mk (below_step L3.out l5); have C3 := Aside0.mk (blk_below B3.out l5); have B5 := Aside0.mk b5; have G5 : Aside0 (w.heap.size ≤ g5) := ⟨by rw [e5]; exact L3.out.size⟩; clear l5 b5 e5; obtain ⟨h0, h1, h2, h3, h4, h5, h6, h7⟩ := house8 C3.out)
    | (go_at_call 29; refine (HC.out _ (Kd.C_below HR.out L5.out)).mono ?_; rintro e w6 ⟨rfl, l6⟩; have L6 := Aside0.mk (below_step L5.out l6); have B6 := Aside0.mk (blk_below C3.out l6); have D6 := Aside0.mk (blk_below B5.out l6); clear l6 h0 h1 h2 h3 h4 h5 h6 h7; obtain ⟨h0, h1, h2, h3, h4, h5, h6, h7⟩ := house8 B6.out; obtain ⟨t0, t1, t2, t3, t4, t5⟩ := slot6 D6.out)
    | (go_at_call 46; refine (SY.out _).mono ?_; rintro e w7 ⟨rfl, l7⟩; have L7 := Aside0.mk (below_step L6.out l7); clear l7)
    | fail)
  go_ret2
  exact ⟨rfl, L7.out⟩
set_option maxRecDepth 100000 in
set_option maxHeartbeats 2000000 in
theorem times_bad (H : Hs) (l : List S36) (A1 : Option Addr) (c1 : Nat) (w : World) (hl : l.length ≤ 1000000000000) (hne : ¬ checkE H l = 0)
    (hr : Kd.C k36 w A1 l.length l) (hc : l.length ≤ c1) :
    Calls Try.prog 15 #[hv H, .slice A1 l.length c1] w fun e w' => e = .returned (.tuple #[.slice none 0 0, .int .i64 (checkE H l)]) ∧ Below w.heap.size w w' := by
  have hu25 := Try.underlying25
  have HC := Aside0.mk (fun (W : World) (h : Kd.C k36 W A1 l.length l) => check_calls H l A1 c1 W hl h hc)
  generalize checkE H l = ev at hne HC
  have HR := Aside0.mk hr
  clear hr
  go_enter Try.func15, Try.ntmps15
  go_wp2_with (first
    | ((with_reducible refine gate_dst (N := 2) rfl ?_); refine box_event ?hg (N := 2) ?hd (cs := #[.int .i64 H.teams, .int .i64 H.walk, .int .i64 H.early, .int .i64 H.foyer, .int .i64 H.dl, .int .i64 H.dh, .int .i64 H.cl, .int .i64 H.ch]) (t := 25) ?hr ?_; (case hd => rfl); (case hg => rfl); (case hr => first | (go_simp; done) | (go_simp; rfl)); intro g2 e2 w2 b2 l2; have L2 := Aside0.mk l2; have B2 := Aside0.mk b2; clear l2 b2 e2; obtain ⟨h0, h1, h2, h3, h4, h5, h6, h7⟩ := house8 B2.out)
    | (go_at_call 29; refine (HC.out _ (Kd.C_below HR.out L2.out)).mono ?_; rintro e w6 ⟨rfl, l6⟩; have L6 := Aside0.mk (below_step L2.out l6); clear l6 h0 h1 h2 h3 h4 h5 h6 h7)
    | fail)
  go_ret2
  exact ⟨rfl, L6.out⟩
end Go.Proofs.Ythdbkhdiaehblaa.T
