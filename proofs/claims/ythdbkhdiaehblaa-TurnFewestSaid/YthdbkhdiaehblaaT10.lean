/- How many people wait at a minute: the walk of 'waiting'. -/
import Derived.Test.YthdbkhdiaehblaaT9
import Derived.Outline
namespace Go.Proofs.Ythdbkhdiaehblaa.T
open Go.RowKit Go.Proofs.YthdbkhdiaehblaaW.PrintWords Go.Proofs.YthdbkhdiaehblaaW.PrintMore
open Go.Proofs.Ythdbkhdiaehblaa.P
set_option linter.unusedVariables false
attribute [local go_sem] max2_int min2_int max_two min_two
theorem playT_enter {p : Pc} {H : Hs} {d : Day} {s : S36} {n : Int} (F : Fits p H) (S : SFits p s) (D : DayOk n d) (hn : 10000 ≤ n) :
    0 ≤ (playT p H d s s.f4).enter ∧ (playT p H d s s.f4).enter ≤ n := by
  have h1 := D.hc _ (rd_mem S.s0 (by rw [D.hl]; exact S.s1))
  have e0 := F.e0
  have b0 := S.b0
  have b1 := S.b1
  unfold playT mx
  simp only
  split <;> omega
theorem allT_enter {p : Pc} {H : Hs} (F : Fits p H) : ∀ (l : List S36) (d : Day) (n : Int), (∀ s ∈ l, SFits p s) → DayOk n d → 10000 ≤ n → ∀ t ∈ allT p H d l, 0 ≤ t.enter ∧ t.enter ≤ n + 6000 * l.length
  | [], _, _, _, _, _, t, ht => by simp [allT] at ht
  | s :: r, d, n, hS, D, hn, t, ht => by
    have hs := hS s List.mem_cons_self
    rcases List.mem_cons.mp ht with rfl | ht
    · have := playT_enter F hs D hn
      simp only [List.length_cons]
      omega
    · have := allT_enter F r _ (n + 6000) (fun x hx => hS x (List.mem_cons_of_mem _ hx)) (playD_ok F hs D hn) (by omega) t ht
      simp only [List.length_cons]
      omega
/-- How many of a slot's people wait. -/
def waitOne (p : Pc) (H : Hs) (s : S36) (t : Tm) (minute : Int) : Int :=
  if max 0 (s.f1 - H.early) ≤ minute then s.f3 - mn s.f3 (p.ra * mx 0 (minute - t.enter + 1)) else 0
def waitSum (p : Pc) (H : Hs) (minute : Int) : List S36 → List Tm → Int
  | s :: r, t :: q => waitOne p H s t minute + waitSum p H minute r q
  | _, _ => 0
def waitT (p : Pc) (H : Hs) (l : List S36) (minute : Int) : Int := waitSum p H minute l (allT p H (dayAt 6 4) l)
theorem waitSum_snoc (p : Pc) (H : Hs) (minute : Int) (s : S36) (t : Tm) : ∀ (l : List S36) (q : List Tm), l.length = q.length → waitSum p H minute (l ++ [s]) (q ++ [t]) = waitSum p H minute l q + waitOne p H s t minute
  | [], [], _ => by simp [waitSum]
  | x :: r, y :: q, h => by
    have := waitSum_snoc p H minute s t r q (by simpa using h)
    simp only [List.cons_append, waitSum, this]
    omega
theorem waitOne_le {p : Pc} {H : Hs} {s : S36} {t : Tm} {minute : Int} (F : Fits p H) (S : SFits p s) : 0 ≤ waitOne p H s t minute ∧ waitOne p H s t minute ≤ 1000 := by
  have p0 := S.p0
  have p1 := S.p1
  have r0 := F.r0
  have h : 0 ≤ p.ra * mx 0 (minute - t.enter + 1) := Int.mul_nonneg (by omega) (by unfold mx; split <;> omega)
  unfold waitOne
  split
  · unfold mn
    split <;> omega
  · omega
theorem waitSum_le {p : Pc} {H : Hs} {minute : Int} (F : Fits p H) : ∀ (l : List S36) (q : List Tm), (∀ s ∈ l, SFits p s) → 0 ≤ waitSum p H minute l q ∧ waitSum p H minute l q ≤ 1000 * l.length
  | [], _, _ => by simp [waitSum]
  | s :: r, [], _ => by simp only [waitSum, List.length_cons]; omega
  | s :: r, t :: q, h => by
    have h1 := waitSum_le F r q (fun x hx => h x (List.mem_cons_of_mem _ hx)) (minute := minute)
    have h2 := waitOne_le (t := t) (minute := minute) F (h s List.mem_cons_self)
    simp only [waitSum, List.length_cons]
    omega
theorem slot6 {w : World} {g : Nat} {s : S36} (b : w.heap[g]? = some (.cells #[.int .i64 s.f0, .int .i64 s.f1, .int .i64 s.f2.f0, .int .i64 s.f2.f1, .int .i64 s.f3, .int .i64 s.f4] 36 (0, 0))) :
    w.cell? ⟨g, 0, none⟩ = some (.int .i64 s.f0) ∧ w.cell? ⟨g, 1, none⟩ = some (.int .i64 s.f1) ∧ w.cell? ⟨g, 2, none⟩ = some (.int .i64 s.f2.f0) ∧ w.cell? ⟨g, 3, none⟩ = some (.int .i64 s.f2.f1) ∧ w.cell? ⟨g, 4, none⟩ = some (.int .i64 s.f3) ∧ w.cell? ⟨g, 5, none⟩ = some (.int .i64 s.f4) :=
  ⟨blk_cell b 0, blk_cell b 1, blk_cell b 2, blk_cell b 3, blk_cell b 4, blk_cell b 5⟩
theorem house_slot {w' : World} {g4 : Nat} {H : Hs} {ae : Addr} {k : Nat} {s : S36} (b : w'.heap[g4]? = some (.cells #[.int .i64 H.teams, .int .i64 H.walk, .int .i64 H.early, .int .i64 H.foyer, .int .i64 H.dl, .int .i64 H.dh, .int .i64 H.cl, .int .i64 H.ch] 25 (0, 0))) (y : SlotAt w' ae k s) :
    w'.cell? ⟨g4, 0, none⟩ = some (.int .i64 H.teams) ∧ w'.cell? ⟨g4, 1, none⟩ = some (.int .i64 H.walk) ∧ w'.cell? ⟨g4, 2, none⟩ = some (.int .i64 H.early) ∧ w'.cell? ⟨g4, 3, none⟩ = some (.int .i64 H.foyer) ∧
        w'.cell? ⟨g4, 4, none⟩ = some (.int .i64 H.dl) ∧ w'.cell? ⟨g4, 5, none⟩ = some (.int .i64 H.dh) ∧ w'.cell? ⟨g4, 6, none⟩ = some (.int .i64 H.cl) ∧ w'.cell? ⟨g4, 7, none⟩ = some (.int .i64 H.ch) ∧
        w'.cell? (ae.add (k * 6)) = some (.int .i64 s.f0) ∧ w'.cell? ⟨(ae.add (k * 6)).block, (ae.add (k * 6)).off + 1, none⟩ = some (.int .i64 s.f1) ∧ w'.cell? ⟨(ae.add (k * 6)).block, (ae.add (k * 6)).off + 2, none⟩ = some (.int .i64 s.f2.f0) ∧
        w'.cell? ⟨(ae.add (k * 6)).block, (ae.add (k * 6)).off + 3, none⟩ = some (.int .i64 s.f2.f1) ∧ w'.cell? ⟨(ae.add (k * 6)).block, (ae.add (k * 6)).off + 4, none⟩ = some (.int .i64 s.f3) ∧ w'.cell? ⟨(ae.add (k * 6)).block, (ae.add (k * 6)).off + 5, none⟩ = some (.int .i64 s.f4) := by
  obtain ⟨a0, a1, a2, a3, a4, a5, a6, a7⟩ := house8 b
  exact ⟨a0, a1, a2, a3, a4, a5, a6, a7, y.c0, y.c1, y.c2, y.c3, y.c4, y.c5⟩
set_option maxRecDepth 100000 in
set_option maxHeartbeats 2000000 in
theorem waiting_calls (p : Pc) (H : Hs) (l : List S36) (minute : Int) (A1 : Option Addr) (c1 : Nat) (w : World) (F : Fits p H) (hS : ∀ s ∈ l, SFits p s) (hn : l.length ≤ 100) (m0 : 0 ≤ minute) (m1 : minute ≤ 10000)
    (hr : Kd.C k36 w A1 l.length l) (hc : l.length ≤ c1) :
    Calls Try.prog 53 #[hv H, .slice A1 l.length c1, pv p, .int .i64 minute] w fun e w' => e = .returned (.int .i64 (waitT p H l minute)) ∧ Below w.heap.size w w' := by
  have hu25 := Try.underlying25
  have hu36 := Try.underlying36
  have hu80 := Try.underlying80
  have hu83 := Try.underlying83
  have HR := Aside0.mk hr
  have HK := Aside0.mk hc
  have HS := Lib.hid hS
  have ra0 := F.r0
  have ra1 := F.r1
  clear hr hc hS
  go_enter Try.func53, Try.ntmps53
  go_wp2_with (first
    | ((with_reducible refine gate_dst (N := 4) rfl ?_); refine box_event ?hg (N := 4) ?hd (cs := #[.int .i64 H.teams, .int .i64 H.walk, .int .i64 H.early, .int .i64 H.foyer, .int .i64 H.dl, .int .i64 H.dh, .int .i64 H.cl, .int .i64 H.ch]) (t := 25) ?hr ?_; (case hd => rfl); (case hg => rfl); (case hr => first | (go_simp; done) | (go_simp; rfl)); intro g4 e4 w4 b4 l4; have L4 := Aside0.mk l4; have B4 := Aside0.mk b4; clear l4 b4 e4)
    | ((with_reducible refine gate_dst (N := 6) rfl ?_); refine box_event ?hg (N := 6) ?hd (cs := #[.func (.func p.fn) #[] #[], .int .i64 p.cl, .int .i64 p.ra]) (t := 80) ?hr ?_; (case hd => rfl); (case hg => rfl); (case hr => first | (go_simp; done) | (go_simp; rfl)); intro g6 e6 w6 b6 l6; have L6 := Aside0.mk (below_step L4.out l6); have B6 := Aside0.mk b6; have C4 := Aside0.mk (blk_below B4.out l6); clear l6 b6 e6; obtain ⟨h0, h1, h2, h3, h4, h5, h6, h7⟩ := house8 C4.out; have q0 := blk_cell B6.out 0; have q1 := blk_cell B6.out 1; have q2 := blk_cell B6.out 2)
    | (go_at_call 41; refine (all_reads p H l A1 c1 _ F HS.out hn (Kd.C_below HR.out L6.out) HK.out).mono ?_; rintro e w7 ⟨A7, c7, rfl, k7, r7, l7⟩; have L7 := Aside0.mk (below_step L6.out l7); have B7 := Aside0.mk (blk_below B6.out l7); have C7 := Aside0.mk (blk_below C4.out l7); have R7 := Aside0.mk r7; have K7 := Aside0.mk k7; clear l7 r7 k7))
  clear h0 h1 h2 h3 h4 h5 h6 h7 q0 q1 q2 L4 B4 L6 B6 C4
  go_loopw [9, 17] (fun v9 v17 wr => ∃ k : Nat, k ≤ l.length ∧ v17 = .int .i64 k ∧ v9 = .int .i64 (waitSum p H minute (l.take k) ((allT p H (dayAt 6 4) l).take k)) ∧ Aside0 (Below w7.heap.size w7 wr)) (fun _ v _ => l.length - (intOf v).toNat)
  case atStart => exact ⟨0, by omega, rfl, rfl, ⟨Below.refl _ _⟩⟩
  case round =>
    obtain ⟨k, hk, rfl, rfl, HW⟩ := hrel
    by_cases hlt : k < l.length
    · obtain ⟨x, hx⟩ : ∃ x, x = rd_Tm (allT p H (dayAt 6 4) l) (k : Int) := ⟨_, rfl⟩
      obtain ⟨s, hs⟩ : ∃ s, s = rd_T36 l (k : Int) := ⟨_, rfl⟩
      have hxk : (allT p H (dayAt 6 4) l)[k]? = some x := by rw [hx, rd_Tm_get _ _ (by rw [allT_length]; exact hlt), List.getElem?_eq_getElem]
      have hsk : l[k]? = some s := by rw [hs, rd36 _ _ hlt, List.getElem?_eq_getElem]
      have SF : SFits p s := HS.out s (List.mem_of_getElem? hsk)
      have XB := allT_enter F l (dayAt 6 4) 10000 HS.out morning_ok (by omega) x (List.mem_of_getElem? hxk)
      have WB := waitSum_le (minute := minute) F (l.take k) ((allT p H (dayAt 6 4) l).take k) (fun y hy => HS.out y (List.mem_of_mem_take hy))
      have hts : waitSum p H minute (l.take (k + 1)) ((allT p H (dayAt 6 4) l).take (k + 1)) = waitSum p H minute (l.take k) ((allT p H (dayAt 6 4) l).take k) + waitOne p H s x minute := by
        rw [List.take_add_one, List.take_add_one, hxk, hsk]
        exact waitSum_snoc p H minute s x _ _ (by simp [allT_length])
      have hkl : ((l.take k).length : Int) ≤ 100 := by rw [List.length_take]; omega
      obtain ⟨n, hn0⟩ : ∃ n, waitSum p H minute (l.take k) ((allT p H (dayAt 6 4) l).take k) = n := ⟨_, rfl⟩
      rw [hn0] at WB hts ⊢
      have n1 : 0 ≤ n := WB.1
      have n2 : n ≤ 100000 := by omega
      have x1 : 0 ≤ x.enter := XB.1
      have x2 : x.enter ≤ 1000000 := by omega
      have Hxk := Lib.hid hxk
      have Hts := Lib.hid hts
      have HN := Lib.hid hn0
      obtain ⟨ad, eA, x0, x3, x4, x5, x6⟩ := at_Tm R7.out (k : Int) (by omega) (by omega)
      obtain ⟨ae, eB, y0, y1, y2, y3, y4, y5⟩ := at_T36 HR.out (k : Int) (by omega) (by omega)
      subst eA eB
      rw [← hx] at x0 x3 x4 x5 x6
      rw [← hs] at y0 y1 y2 y3 y4 y5
      simp only [Int.toNat_natCast] at x0 x3 x4 x5 x6 y0 y1 y2 y3 y4 y5
      replace x0 := pw_cell_below HW.out x0
      replace x3 := pw_cell_below HW.out x3
      replace x4 := pw_cell_below HW.out x4
      replace x5 := pw_cell_below HW.out x5
      replace x6 := pw_cell_below HW.out x6
      have YS : Aside0 (SlotAt wr ae k s) := ⟨⟨pw_cell_below HW.out (pw_cell_below L7.out y0), pw_cell_below HW.out (pw_cell_below L7.out y1), pw_cell_below HW.out (pw_cell_below L7.out y2), pw_cell_below HW.out (pw_cell_below L7.out y3), pw_cell_below HW.out (pw_cell_below L7.out y4), pw_cell_below HW.out (pw_cell_below L7.out y5)⟩⟩
      clear y0 y1 y2 y3 y4 y5 hx hs hxk hsk hts hn0 WB XB hkl
      go_wp2_with (first
        | ((with_reducible refine gate_dst (N := 11) rfl ?_); refine box_event ?hg (N := 11) ?hd (cs := #[.int .i64 0, .int .i64 0, .int .i64 0, .int .i64 0, .int .i64 0]) (t := 83) ?hr ?_; (case hd => rfl); (case hg => rfl); (case hr => first | (go_simp; done) | (go_simp; rfl)); intro ga ea wa ba la; have La := Aside0.mk la; have Ba := Aside0.mk ba; have Ga : Aside0 (wr.heap.size ≤ ga) := ⟨Nat.le_of_eq ea.symm⟩; clear la ba ea)
        | (refine store_whole rfl 83 (.tmp 11) (.tmp 21) rfl ga #[.int .i64 x.enter, .int .i64 x.seated, .int .i64 x.start, .int .i64 x.empty, .int .i64 x.ready] _ 83 rfl rfl Ba.out rfl info83s (five_one _ _ _ _ _) ?_; intro wb bb lb; have LB := Aside0.mk (new_stored La.out Ga.out lb); have Bb := Aside0.mk bb; clear lb bb x0 x3 x4 x5 x6))
      have LD := Aside0.mk (below_drew1 LB.out)
      have YD := Aside0.mk (YS.out.below LD.out)
      have CD := Aside0.mk (blk_below (blk_below C7.out HW.out) LD.out)
      have z0 : (0 : Int) ≤ (k : Int) := by omega
      have z1 : (k : Int) < (l.length : Int) := by omega
      go_region_held3 (fun w' => w'.cell? ⟨g4, 0, none⟩ = some (.int .i64 H.teams) ∧ w'.cell? ⟨g4, 1, none⟩ = some (.int .i64 H.walk) ∧ w'.cell? ⟨g4, 2, none⟩ = some (.int .i64 H.early) ∧ w'.cell? ⟨g4, 3, none⟩ = some (.int .i64 H.foyer) ∧
        w'.cell? ⟨g4, 4, none⟩ = some (.int .i64 H.dl) ∧ w'.cell? ⟨g4, 5, none⟩ = some (.int .i64 H.dh) ∧ w'.cell? ⟨g4, 6, none⟩ = some (.int .i64 H.cl) ∧ w'.cell? ⟨g4, 7, none⟩ = some (.int .i64 H.ch) ∧
        w'.cell? (ae.add (k * 6)) = some (.int .i64 s.f0) ∧ w'.cell? ⟨(ae.add (k * 6)).block, (ae.add (k * 6)).off + 1, none⟩ = some (.int .i64 s.f1) ∧ w'.cell? ⟨(ae.add (k * 6)).block, (ae.add (k * 6)).off + 2, none⟩ = some (.int .i64 s.f2.f0) ∧
        w'.cell? ⟨(ae.add (k * 6)).block, (ae.add (k * 6)).off + 3, none⟩ = some (.int .i64 s.f2.f1) ∧ w'.cell? ⟨(ae.add (k * 6)).block, (ae.add (k * 6)).off + 4, none⟩ = some (.int .i64 s.f3) ∧ w'.cell? ⟨(ae.add (k * 6)).block, (ae.add (k * 6)).off + 5, none⟩ = some (.int .i64 s.f4))
        (first | exact house_slot CD.out YD.out | exact house_slot CE.out YE.out)
        (first | (go_at_call 54; refine (comes_calls H s _ F.e0 F.e1 SF.b0 SF.b1).mono ?_; rintro e we ⟨rfl, le⟩; have LE := Aside0.mk (below_step LD.out le); have CE := Aside0.mk (blk_below CD.out le); have YE := Aside0.mk (YD.out.below le); have BE := Aside0.mk (blk_below (blk_drew Bb.out) le); clear le))
      by_cases hcd : max 0 (s.f1 - H.early) ≤ minute
      · go_wp2
        have y4 := YE.out.c4
        have r2 := blk_cell (blk_below (blk_below B7.out HW.out) LE.out) 2
        have e0 := blk_cell BE.out 0
        obtain ⟨mv, hmv⟩ : ∃ j : Int, (if 0 < minute - x.enter + 1 then minute - x.enter + 1 else 0) = j := ⟨_, rfl⟩
        have u0 : 0 ≤ mv := by rw [← hmv]; split <;> omega
        have u1 : mv ≤ 20000 := by rw [← hmv]; split <;> omega
        have u2 : 0 ≤ p.ra * mv := Int.mul_nonneg (by omega) u0
        have u3 : p.ra * mv ≤ 1000 * 20000 := Int.mul_le_mul ra1 u1 u0 (by omega)
        obtain ⟨pr, hpr⟩ : ∃ j : Int, p.ra * mv = j := ⟨_, rfl⟩
        rw [hpr] at u2 u3
        obtain ⟨mi, hmi⟩ : ∃ j : Int, (if pr < s.f3 then pr else s.f3) = j := ⟨_, rfl⟩
        have u4 : 0 ≤ mi := by rw [← hmi]; have := SF.p0; split <;> omega
        have u5 : mi ≤ 1000 := by rw [← hmi]; have := SF.p1; split <;> omega
        have u6 : 0 ≤ s.f3 := SF.p0
        have u7 : s.f3 ≤ 1000 := SF.p1
        have v1 : IntKind.i64.wrap (minute - x.enter) = minute - x.enter := IntWalk.i64_in _ (by omega)
        have v2 : IntKind.i64.wrap (minute - x.enter + 1) = minute - x.enter + 1 := IntWalk.i64_in _ (by omega)
        have v3 : IntKind.i64.wrap (p.ra * mv) = pr := by rw [hpr]; exact IntWalk.i64_in _ (by omega)
        have v4 : IntKind.i64.wrap (s.f3 - mi) = s.f3 - mi := IntWalk.i64_in _ (by omega)
        have v5 : IntKind.i64.wrap (n + (s.f3 - mi)) = n + (s.f3 - mi) := IntWalk.i64_in _ (by omega)
        have hw1 : waitOne p H s x minute = s.f3 - mi := by
          unfold waitOne mx mn
          rw [if_pos hcd, hmv, hpr, hmi]
        have Hw1 := Lib.hid hw1
        have Hpr := Lib.hid hpr
        clear hpr hw1
        go_quiet (fail)
        clear v1 v2 v3 v4 v5 hmv hmi y4 r2 e0
        go_wp2
        go_roundw
        case rel => exact ⟨k + 1, by omega, by go_num, by rw [Hts.out, Hw1.out], ⟨pw_below_drewN (below_step HW.out LE.out) _⟩⟩
        case measure => simp [intOf]; omega
      · have hw1 : waitOne p H s x minute = 0 := by unfold waitOne; rw [if_neg hcd]
        have Hw1 := Lib.hid hw1
        clear hw1
        go_wp2
        go_roundw
        case rel => exact ⟨k + 1, by omega, by go_num, by rw [Hts.out, Hw1.out, Int.add_zero], ⟨below_step HW.out LE.out⟩⟩
        case measure => simp [intOf]; omega
    · obtain rfl : k = l.length := by omega
      have hq : waitSum p H minute (l.take l.length) ((allT p H (dayAt 6 4) l).take l.length) = waitT p H l minute := by
        rw [List.take_length, List.take_of_length_le (by rw [allT_length]; omega)]
        rfl
      rw [hq]
      go_wp2
      go_ret
      exact ⟨rfl, below_step L7.out HW.out⟩
end Go.Proofs.Ythdbkhdiaehblaa.T
