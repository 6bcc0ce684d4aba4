/- The walk of the method 'play'. -/
import Derived.Test.YthdbkhdiaehblaaT2
import Derived.Outline
import Derived.Lib.Hide
import Derived.BigRegion
namespace Go.Proofs.Ythdbkhdiaehblaa.T
open Go.RowKit Go.Proofs.YthdbkhdiaehblaaW.PrintWords Go.Proofs.YthdbkhdiaehblaaW.PrintMore
open Go.Proofs.Ythdbkhdiaehblaa.P
attribute [local go_sem] max2_int min2_int max_two min_two
abbrev tv (t : Tm) : Value := .agg #[.int .i64 t.enter, .int .i64 t.seated, .int .i64 t.start, .int .i64 t.empty, .int .i64 t.ready]
theorem play_eq {p : Pc} {H : Hs} {d : Day} {s : S36} {team ent ps sta emp fr : Int}
    (h1 : (if max 0 (s.f1 - H.early) < rd d.clean s.f0 then rd d.clean s.f0 else max 0 (s.f1 - H.early)) = ent) (h2 : (s.f3 + p.ra - 1) / p.ra = ps)
    (h3 : (if s.f1 < ent + ps then ent + ps else s.f1) = sta) (h4 : sta + p.ru s + ps = emp)
    (h5 : (if rd d.done team = -1 then emp else if emp < rd d.done team + H.walk then rd d.done team + H.walk else emp) = fr) :
    playT p H d s team = ⟨ent, ent + ps, sta, emp, fr + p.cl⟩ := by
  subst h1 h2 h3 h4 h5
  rfl
theorem enters (f : Nat) (hf : f = 61 ∨ f = 62) (args : Array Value) (W : World) : (callFunc f args).run Try.prog W = .ok (.enter f args) W := by
  rcases hf with rfl | rfl
  · go_simp
  · go_simp
set_option maxRecDepth 100000 in
set_option maxHeartbeats 2000000 in
theorem play_calls (p : Pc) (H : Hs) (d : Day) (B : Nat) (s : S36) (team : Int) (w : World)
    (hf : p.fn = 61 ∨ p.fn = 62) (hfn : ∀ W, Calls Try.prog p.fn #[sv s] W fun e w' => e = .returned (.int .i64 (p.ru s)) ∧ Below W.heap.size W w')
    (hb : w.heap[B]? = some (.cells (dayCells p H d) 99 (0, 0))) (hl : d.clean.length = 6) (hm : d.done.length = 4)
    (s0 : 0 ≤ s.f0) (s1 : s.f0 < 6) (t0 : 0 ≤ team) (t1 : team < 4) (e0 : 0 ≤ H.early) (e1 : H.early ≤ 1000) (b0 : 0 ≤ s.f1) (b1 : s.f1 ≤ 10000) 
    (r0 : 1 ≤ p.ra) (r1 : p.ra ≤ 1000) (p0 : 0 ≤ s.f3) (p1 : s.f3 ≤ 1000) (u0 : 0 ≤ p.ru s) (u1 : p.ru s ≤ 1000)
    (d0 : -1 ≤ rd d.clean s.f0) (d1 : rd d.clean s.f0 ≤ 1000000) (d2 : -1 ≤ rd d.done team) (d3 : rd d.done team ≤ 1000000)
    (v0 : 0 ≤ H.walk) (v1 : H.walk ≤ 1000) (v2 : 0 ≤ p.cl) (v3 : p.cl ≤ 1000) :
    Calls Try.prog 60 #[.pointer (some ⟨B, 0, none⟩), sv s, .int .i64 team] w fun e w' =>
      e = .returned (tv (playT p H d s team)) ∧ w'.heap[B]? = some (.cells (dayCells p H (playD p H d s team)) 99 (0, 0)) ∧ w.grownBy w' (some B) := by
  have hu25 := Try.underlying25
  have hu36 := Try.underlying36
  have hu99 := Try.underlying99
  have hu83 := Try.underlying83
  have hu80 := Try.underlying80
  have hu96 := Try.underlying96
  have hu97 := Try.underlying97
  obtain ⟨ent, hent⟩ : ∃ j : Int, (if max 0 (s.f1 - H.early) < rd d.clean s.f0 then rd d.clean s.f0 else max 0 (s.f1 - H.early)) = j := ⟨_, rfl⟩
  have n0 : 0 ≤ ent := by rw [← hent]; split <;> omega
  have n1 : ent ≤ 1000000 := by rw [← hent]; split <;> omega
  obtain ⟨ps, hps⟩ : ∃ j : Int, (s.f3 + p.ra - 1) / p.ra = j := ⟨_, rfl⟩
  have n2 : 0 ≤ ps := by rw [← hps]; exact Int.ediv_nonneg (by omega) (by omega)
  have n3 : ps ≤ 2000 := by rw [← hps]; exact Int.le_trans (Int.ediv_le_self _ (by omega)) (by omega)
  have hpc : ∀ W, Calls Try.prog 64 #[.agg #[.func (.func p.fn) #[] #[], .int .i64 p.cl, .int .i64 p.ra], .int .i64 s.f3] W fun e w' => e = .returned (.int .i64 ps) ∧ Below W.heap.size W w' := by
    intro W; rw [← hps]; exact passes_calls _ _ _ _ W p0 p1 r0 r1
  obtain ⟨sta, hsta⟩ : ∃ j : Int, (if s.f1 < ent + ps then ent + ps else s.f1) = j := ⟨_, rfl⟩
  have n4 : 0 ≤ sta := by rw [← hsta]; split <;> omega
  have n5 : sta ≤ 1003000 := by rw [← hsta]; split <;> omega
  obtain ⟨emp, hemp⟩ : ∃ j : Int, sta + p.ru s + ps = j := ⟨_, rfl⟩
  have n6 : 0 ≤ emp := by omega
  have n7 : emp ≤ 1006000 := by omega
  have Hemp := Lib.hid hemp
  clear hemp
  have Hps := Lib.hid hps
  have Hfn := Lib.hid hfn
  have Hpc := Lib.hid hpc
  clear hps hfn hpc
  have hB := blk_lt hb
  have P0 := Aside0.mk (Playing.begin w p H d B s hb)
  clear hb
  go_enter Try.func60, Try.ntmps60
  go_wp2
  generalize ((w.alloc (.cells #[.int .i64 s.f0, .int .i64 s.f1, .int .i64 s.f2.f0, .int .i64 s.f2.f1, .int .i64 s.f3, .int .i64 s.f4] 36 (0, 0))).alloc (.cells #[.int .i64 0, .int .i64 0, .int .i64 0, .int .i64 0, .int .i64 0] 83 (0, 0))).alloc (.cells #[.int .i64 0, .int .i64 0, .int .i64 0, .int .i64 0, .int .i64 0] 83 (0, 0)) = W1 at P0 ⊢
  have P1 := Aside0.mk P0.out.drew
  go_region_held3 (fun w' => w'.cell? ⟨B, 0, none⟩ = some (.int .i64 H.teams) ∧ w'.cell? ⟨B, 1, none⟩ = some (.int .i64 H.walk) ∧ w'.cell? ⟨B, 2, none⟩ = some (.int .i64 H.early) ∧ w'.cell? ⟨B, 3, none⟩ = some (.int .i64 H.foyer) ∧
    w'.cell? ⟨B, 4, none⟩ = some (.int .i64 H.dl) ∧ w'.cell? ⟨B, 5, none⟩ = some (.int .i64 H.dh) ∧ w'.cell? ⟨B, 6, none⟩ = some (.int .i64 H.cl) ∧ w'.cell? ⟨B, 7, none⟩ = some (.int .i64 H.ch) ∧
    w'.cell? ⟨w.heap.size, 0, none⟩ = some (.int .i64 s.f0) ∧ w'.cell? ⟨w.heap.size, 1, none⟩ = some (.int .i64 s.f1) ∧ w'.cell? ⟨w.heap.size, 2, none⟩ = some (.int .i64 s.f2.f0) ∧
    w'.cell? ⟨w.heap.size, 3, none⟩ = some (.int .i64 s.f2.f1) ∧ w'.cell? ⟨w.heap.size, 4, none⟩ = some (.int .i64 s.f3) ∧ w'.cell? ⟨w.heap.size, 5, none⟩ = some (.int .i64 s.f4) ∧ w'.cell? ⟨B, 11 + s.f0.toNat, none⟩ = some (.int .i64 (rd d.clean s.f0)))
    (first | exact P1.out.S2 hl s0 s1 | exact P2.out.S2 hl s0 s1 | exact (P2.out.set0 hB _).S2 hl s0 s1)
    (first | (go_at_call 54; refine (comes_calls H s _ e0 e1 b0 b1).mono ?_; rintro e w2 ⟨rfl, hb1⟩; have P2 := Aside0.mk (P1.out.below hb1); have m0 := time_free P2.out 0; have m1 := (time_cells P2.out).1))
  have P3 := Aside0.mk (P2.out.set0 hB ent)
  generalize w2.setCell ⟨w.heap.size + 1 + 1, 0, none⟩ (.int .i64 ent) = W3 at P3 ⊢
  clear P0 P1 P2 hb1 m0 m1
  go_wp2
  have P4 := Aside0.mk P3.out.drew
  have z1 : IntKind.i64.wrap (ent + ps) = ent + ps := IntWalk.i64_in _ (by omega)
  go_region_held3 (fun w' => w'.cell? ⟨B, 8, none⟩ = some (.func (.func p.fn) #[] #[]) ∧ w'.cell? ⟨B, 9, none⟩ = some (.int .i64 p.cl) ∧ w'.cell? ⟨B, 10, none⟩ = some (.int .i64 p.ra) ∧
    w'.cell? ⟨w.heap.size, 0, none⟩ = some (.int .i64 s.f0) ∧ w'.cell? ⟨w.heap.size, 1, none⟩ = some (.int .i64 s.f1) ∧ w'.cell? ⟨w.heap.size, 2, none⟩ = some (.int .i64 s.f2.f0) ∧
    w'.cell? ⟨w.heap.size, 3, none⟩ = some (.int .i64 s.f2.f1) ∧ w'.cell? ⟨w.heap.size, 4, none⟩ = some (.int .i64 s.f3) ∧ w'.cell? ⟨w.heap.size, 5, none⟩ = some (.int .i64 s.f4) ∧
    w'.cell? ⟨w.heap.size + 1 + 1, 0, none⟩ = some (.int .i64 ent) ∧ w'.cell? ⟨w.heap.size + 1 + 1, 2, none⟩ = some (.int .i64 0))
    (first | exact P4.out.S3 | exact P5.out.S3 | exact (P5.out.set1 hB _).S3)
    (first | (go_at_call 64; refine (Hpc.out _).mono ?_; rintro e w4 ⟨rfl, hb4⟩; have P5 := Aside0.mk (P4.out.below hb4); have m0 := time_free P5.out 1; have m1 := (time_cells P5.out).2.1))
  have P6 := Aside0.mk (P5.out.set1 hB (ent + ps))
  generalize w4.setCell ⟨w.heap.size + 1 + 1, 1, none⟩ (.int .i64 (ent + ps)) = W5 at P6 ⊢
  clear P3 P4 P5 hb4 m0 m1 z1
  have m0 := time_free P6.out 2
  obtain ⟨x0, x1, x2, x3, x4⟩ := time_cells P6.out
  obtain ⟨g0, g1, g2, g3, g4, g5⟩ := slot_cells P6.out
  go_wp2
  have P7 := Aside0.mk (P6.out.set2 hB sta)
  generalize W5.setCell ⟨w.heap.size + 1 + 1, 2, none⟩ (.int .i64 sta) = W6 at P7 ⊢
  clear P6 m0 x0 x1 x2 x3 x4 g0 g1 g2 g3 g4 g5
  go_wp2
  have P8 := Aside0.mk P7.out.drew
  have hcf := enters p.fn hf
  have z1 : IntKind.i64.wrap (sta + p.ru s) = sta + p.ru s := IntWalk.i64_in _ (by omega)
  have z2 : IntKind.i64.wrap (sta + p.ru s + ps) = emp := Eq.trans (IntWalk.i64_in _ (by omega)) Hemp.out
  go_region_held3 (fun w' => w'.cell? ⟨B, 8, none⟩ = some (.func (.func p.fn) #[] #[]) ∧ w'.cell? ⟨B, 9, none⟩ = some (.int .i64 p.cl) ∧ w'.cell? ⟨B, 10, none⟩ = some (.int .i64 p.ra) ∧
    w'.cell? ⟨w.heap.size, 0, none⟩ = some (.int .i64 s.f0) ∧ w'.cell? ⟨w.heap.size, 1, none⟩ = some (.int .i64 s.f1) ∧ w'.cell? ⟨w.heap.size, 2, none⟩ = some (.int .i64 s.f2.f0) ∧
    w'.cell? ⟨w.heap.size, 3, none⟩ = some (.int .i64 s.f2.f1) ∧ w'.cell? ⟨w.heap.size, 4, none⟩ = some (.int .i64 s.f3) ∧ w'.cell? ⟨w.heap.size, 5, none⟩ = some (.int .i64 s.f4) ∧
    w'.cell? ⟨w.heap.size + 1 + 1, 0, none⟩ = some (.int .i64 ent) ∧ w'.cell? ⟨w.heap.size + 1 + 1, 2, none⟩ = some (.int .i64 sta))
    (first | exact P8.out.S3 | exact Pa.out.S3 | exact Pb.out.S3 | exact (Pb.out.set3 hB _).S3)
    (first | (go_at_call 64; refine (Hpc.out _).mono ?_; rintro e w5 ⟨rfl, hb5⟩; have Pb := Aside0.mk (Pa.out.below hb5); have m0 := time_free Pb.out 3; have m1 := (time_cells Pb.out).2.2.2.1) | (refine (Hfn.out _).mono ?_; rintro e w4 ⟨rfl, hb4⟩; have Pa := Aside0.mk (P8.out.below hb4)))
  have Pc := Aside0.mk (Pb.out.set3 hB emp)
  generalize w5.setCell ⟨w.heap.size + 1 + 1, 3, none⟩ (.int .i64 emp) = W7 at Pc ⊢
  clear P7 P8 Pa Pb hb4 hb5 m0 m1 z1 z2
  obtain ⟨x0, x1, x2, x3, x4⟩ := time_cells Pc.out
  have m1 := day_done Pc.out.day hl team t0 (by omega)
  have c9 := (day_fix Pc.out.day).2.2.2.2.2.2.2.2.2.1
  have f4 := time_free Pc.out 4
  go_wp2
  · have hD : ¬ rd d.done team = -1 := by simpa using (by assumption : (rd d.done team != -1) = true)
    have c1 := (day_fix Pc.out.day).2.1
    obtain ⟨fr, hfr⟩ : ∃ j : Int, (if emp < rd d.done team + H.walk then rd d.done team + H.walk else emp) = j := ⟨_, rfl⟩
    have n8 : 0 ≤ fr := by rw [← hfr]; split <;> omega
    have n9 : fr ≤ 1006000 := by rw [← hfr]; split <;> omega
    have z1 : IntKind.i64.wrap (rd d.done team + H.walk) = rd d.done team + H.walk := IntWalk.i64_in _ (by omega)
    go_quiet (fail)
    have Hfr := Lib.hid hfr
    clear hfr z1 c1 x0 x1 x2 x3 x4 m1 c9 f4
    have Pq := Aside0.mk (Pc.out.below (pw_below_drewN (Below.refl _ _) nq))
    clear Pc
    have Pc := Pq
    clear Pq
    generalize W7.drewN nq = W9 at Pc ⊢
    obtain ⟨x0, x1, x2, x3, x4⟩ := time_cells Pc.out
    have m1 := day_done Pc.out.day hl team t0 (by omega)
    have c9 := (day_fix Pc.out.day).2.2.2.2.2.2.2.2.2.1
    have f4 := time_free Pc.out 4
    go_wp2
    have Pd := Aside0.mk (Pc.out.set4 hB (fr + p.cl))
    clear c9 f4 x4 x0 x1 x2 x3 m1
    generalize W9.setCell ⟨w.heap.size + 1 + 1, 4, none⟩ (.int .i64 (fr + p.cl)) = W8 at Pd ⊢
    have x4 := (time_cells Pd.out).2.2.2.2
    have g0 := (slot_cells Pd.out).1
    have k1 := day_clean Pd.out.day s.f0 s0 (by omega)
    have k2 := day_done Pd.out.day hl team t0 (by omega)
    have f1 := blk_frozen Pd.out.day (11 + s.f0.toNat)
    have f2 := blk_frozen Pd.out.day (17 + team.toNat)
    go_region
    have Pe := Aside0.mk (Pd.out.done hB hl hm s0 s1 t0 t1 (fr + p.cl)).drew
    clear x4 g0 k1 k2 f1 f2
    generalize ((W8.setCell ⟨B, 11 + s.f0.toNat, none⟩ (.int .i64 (fr + p.cl))).setCell ⟨B, 17 + team.toNat, none⟩ (.int .i64 (fr + p.cl))).drew = W10 at Pe ⊢
    obtain ⟨x0, x1, x2, x3, x4⟩ := time_cells Pe.out
    have r0 := blk_cell Pe.out.res 0
    have r1 := blk_cell Pe.out.res 1
    have r2 := blk_cell Pe.out.res 2
    have r3 := blk_cell Pe.out.res 3
    have r4 := blk_cell Pe.out.res 4
    have f0 := blk_frozen Pe.out.res
    go_wp2
    obtain ⟨y0, y1, y2⟩ := Pe.out.fin hB
    have hT : playT p H d s team = ⟨ent, ent + ps, sta, emp, fr + p.cl⟩ := play_eq hent Hps.out hsta Hemp.out (by rw [if_neg hD]; exact Hfr.out)
    refine bodyPost_ret (results_cell_row rfl _ _ (w.heap.size + 1) 83 #[.int .i64 ent, .int .i64 (ent + ps), .int .i64 sta, .int .i64 emp, .int .i64 (fr + p.cl)] (0, 0) _ rfl y1 Try.underlying83 rfl (by kernel_rfl)) rfl ?_
    unfold playD
    rw [hT]
    exact ⟨rfl, y0, y2⟩
  · have hD : rd d.done team = -1 := by simpa using (by assumption : (rd d.done team != -1) = false)
    have Pd := Aside0.mk (Pc.out.set4 hB (emp + p.cl))
    clear c9 f4 x4 x0 x1 x2 x3 m1
    generalize W7.setCell ⟨w.heap.size + 1 + 1, 4, none⟩ (.int .i64 (emp + p.cl)) = W8 at Pd ⊢
    have x4 := (time_cells Pd.out).2.2.2.2
    have g0 := (slot_cells Pd.out).1
    have k1 := day_clean Pd.out.day s.f0 s0 (by omega)
    have k2 := day_done Pd.out.day hl team t0 (by omega)
    have f1 := blk_frozen Pd.out.day (11 + s.f0.toNat)
    have f2 := blk_frozen Pd.out.day (17 + team.toNat)
    go_region
    have Pe := Aside0.mk (Pd.out.done hB hl hm s0 s1 t0 t1 (emp + p.cl)).drew
    clear x4 g0 k1 k2 f1 f2
    generalize ((W8.setCell ⟨B, 11 + s.f0.toNat, none⟩ (.int .i64 (emp + p.cl))).setCell ⟨B, 17 + team.toNat, none⟩ (.int .i64 (emp + p.cl))).drew = W10 at Pe ⊢
    obtain ⟨x0, x1, x2, x3, x4⟩ := time_cells Pe.out
    have r0 := blk_cell Pe.out.res 0
    have r1 := blk_cell Pe.out.res 1
    have r2 := blk_cell Pe.out.res 2
    have r3 := blk_cell Pe.out.res 3
    have r4 := blk_cell Pe.out.res 4
    have f0 := blk_frozen Pe.out.res
    go_wp2
    obtain ⟨y0, y1, y2⟩ := Pe.out.fin hB
    have hT : playT p H d s team = ⟨ent, ent + ps, sta, emp, emp + p.cl⟩ := play_eq hent Hps.out hsta Hemp.out (by rw [if_pos hD])
    refine bodyPost_ret (results_cell_row rfl _ _ (w.heap.size + 1) 83 #[.int .i64 ent, .int .i64 (ent + ps), .int .i64 sta, .int .i64 emp, .int .i64 (emp + p.cl)] (0, 0) _ rfl y1 Try.underlying83 rfl (by kernel_rfl)) rfl ?_
    unfold playD
    rw [hT]
    exact ⟨rfl, y0, y2⟩
end Go.Proofs.Ythdbkhdiaehblaa.T
