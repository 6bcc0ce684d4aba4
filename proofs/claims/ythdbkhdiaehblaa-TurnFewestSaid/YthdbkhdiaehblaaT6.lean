/- All slots of a day: the walk of 'all'. -/
import Derived.Test.YthdbkhdiaehblaaT5
import Derived.Outline
namespace Go.Proofs.Ythdbkhdiaehblaa.T
open Go.RowKit Go.Proofs.YthdbkhdiaehblaaW.PrintWords Go.Proofs.YthdbkhdiaehblaaW.PrintMore
open Go.Proofs.Ythdbkhdiaehblaa.P
set_option linter.unusedVariables false
theorem info83 : (Try.prog.info? 83).map (fun i => (i.zero, i.size, i.bytes)) = some (some (.agg #[(.int .i64 0), (.int .i64 0), (.int .i64 0), (.int .i64 0), (.int .i64 0)]), 5, 40) := by kernel_rfl
set_option maxRecDepth 100000 in
set_option maxHeartbeats 2000000 in
theorem all_calls (p : Pc) (H : Hs) (l : List S36) (A1 : Option Addr) (c1 : Nat) (w : World) (F : Fits p H) (hS : ∀ s ∈ l, SFits p s) (hn : l.length ≤ 100)
    (hr : Kd.C k36 w A1 l.length l) (hc : l.length ≤ c1) :
    Calls Try.prog 41 #[hv H, .slice A1 l.length c1, pv p] w fun e w' => ∃ v, e = .returned v ∧ Kd.R kTm 83 w' w.heap.size (fun _ => True) v (allT p H (dayAt 6 4) l) ∧ Below w.heap.size w w' := by
  have hu25 := Try.underlying25
  have hu36 := Try.underlying36
  have hu80 := Try.underlying80
  have hu99 := Try.underlying99
  have hu83 := Try.underlying83
  have HR := Aside0.mk hr
  have HS := Lib.hid hS
  clear hr hS
  go_enter Try.func41, Try.ntmps41
  go_wp2_with (first
    | ((with_reducible refine gate_dst (N := 3) rfl ?_); refine box_event ?hg (N := 3) ?hd (cs := #[.int .i64 H.teams, .int .i64 H.walk, .int .i64 H.early, .int .i64 H.foyer, .int .i64 H.dl, .int .i64 H.dh, .int .i64 H.cl, .int .i64 H.ch]) (t := 25) ?hr ?_; (case hd => rfl); (case hg => rfl); (case hr => first | (go_simp; done) | (go_simp; rfl)); intro g3 e3 w3 b3 l3; have L3 := Aside0.mk l3; have B3 := Aside0.mk b3; clear l3 b3 e3)
    | ((with_reducible refine gate_dst (N := 5) rfl ?_); refine box_event ?hg (N := 5) ?hd (cs := #[.func (.func p.fn) #[] #[], .int .i64 p.cl, .int .i64 p.ra]) (t := 80) ?hr ?_; (case hd => rfl); (case hg => rfl); (case hr => first | (go_simp; done) | (go_simp; rfl)); intro g5 e5 w5 b5 l5; have L5 := Aside0.mk l5; have B5 := Aside0.mk b5; clear l5 b5 e5; have d2 := blk_below B3.out L5.out; have d3 := B5.out; have c0 := blk_cell d2 0; have c1 := blk_cell d2 1; have c2 := blk_cell d2 2; have c3 := blk_cell d2 3; have c4 := blk_cell d2 4; have c5 := blk_cell d2 5; have c6 := blk_cell d2 6; have c7 := blk_cell d2 7; have c8 := blk_cell d3 0; have c9 := blk_cell d3 1; have c10 := blk_cell d3 2; clear d2 d3)
    | (go_at_call 58; refine (begin_calls p H _).mono ?_; rintro e w6 ⟨rfl, l6⟩; have L6 := Aside0.mk l6; clear l6)
    | ((with_reducible refine gate_dst (N := 7) rfl ?_); refine box_event ?hg (N := 7) ?hd (cs := #[.int .i64 0, .int .i64 0, .int .i64 0, .int .i64 0, .int .i64 0, .int .i64 0, .int .i64 0, .int .i64 0, .nilFunc, .int .i64 0, .int .i64 0, .int .i64 0, .int .i64 0, .int .i64 0, .int .i64 0, .int .i64 0, .int .i64 0, .int .i64 0, .int .i64 0, .int .i64 0, .int .i64 0]) (t := 99) ?hr ?_; (case hd => rfl); (case hg => rfl); (case hr => first | (go_simp; done) | (go_simp; rfl)); intro g7 e7 w7 b7 l7; have L7 := Aside0.mk l7; have B7 := Aside0.mk b7; have E7 := Lib.hid e7; clear l7 b7 e7)
    | (refine store_whole rfl 99 (.tmp 7) (.tmp 13) rfl g7 (dayCells p H (dayAt 6 4)) _ 99 rfl rfl B7.out rfl info99 dayCells_one ?_; intro w8 b8 l8; have L8 := Aside0.mk l8; have B8 := Aside0.mk b8; clear l8 b8))
  have l7 : Below w.heap.size w w7 := below_step (below_step (below_step L3.out L5.out) L6.out) L7.out
  have G7 : w.heap.size ≤ g7 := by rw [E7.out]; exact (below_step (below_step L3.out L5.out) L6.out).size
  have HB : Aside0 (Below w.heap.size w w8) := ⟨pw_below_grown l7 (some g7) l7.size L8.out (by rintro k ⟨⟩; exact G7)⟩
  clear c0 c1 c2 c3 c4 c5 c6 c7 c8 c9 c10 L3 L5 L6 L7 L8 B3 B5 B7 E7 l7
  go_loopw [8, 16] (fun v8 v16 wr => ∃ k : Nat, k ≤ l.length ∧ v16 = .int .i64 k ∧ Aside0 (Kd.R kTm 83 wr w.heap.size (fun _ => True) v8 (allT p H (dayAt 6 4) (l.take k))) ∧ Aside0 (wr.heap[g7]? = some (.cells (dayCells p H (allD p H (dayAt 6 4) (l.take k))) 99 (0, 0))) ∧ Aside0 (Below w.heap.size w wr)) (fun _ v _ => l.length - (intOf v).toNat)
  case atStart => exact ⟨0, by omega, rfl, ⟨Kd.R_nil _ _ _ _ _⟩, B8, HB⟩
  case round =>
    clear B8 HB
    obtain ⟨k, hk, rfl, HO, B8, HB⟩ := hrel
    by_cases hlt : k < l.length
    · obtain ⟨s, hs⟩ : ∃ s, s = rd_T36 l (k : Int) := ⟨_, rfl⟩
      have hsk : l[k]? = some s := by
        rw [hs]; unfold rd_T36
        simp [List.getD_eq_getElem?_getD, List.getElem?_eq_getElem hlt]
      have SF : SFits p s := HS.out s (List.mem_of_getElem? hsk)
      have hts : l.take (k + 1) = l.take k ++ [s] := by rw [List.take_add_one, hsk]; rfl
      have DO : DayOk (10000 + 6000 * ((l.take k).length : Int)) (allD p H (dayAt 6 4) (l.take k)) := allD_ok F _ _ _ (fun x hx => HS.out x (List.mem_of_mem_take hx)) morning_ok (by omega)
      have hkl : ((l.take k).length : Int) ≤ 100 := by rw [List.length_take]; omega
      obtain ⟨d, hd⟩ : ∃ d, d = allD p H (dayAt 6 4) (l.take k) := ⟨_, rfl⟩
      rw [← hd] at B8 DO
      have D1 := DO.hc _ (rd_mem SF.s0 (by rw [DO.hl]; exact SF.s1))
      have D2 := DO.hd _ (rd_mem SF.t0 (by rw [DO.hm]; exact SF.t1))
      have hplay := fun (W : World) (hW : W.heap[g7]? = some (.cells (dayCells p H d) 99 (0, 0))) => play_calls p H d g7 s s.f4 W F.hf (F.hfn s) hW DO.hl DO.hm SF.s0 SF.s1 SF.t0 SF.t1 F.e0 F.e1 SF.b0 SF.b1 F.r0 F.r1 SF.p0 SF.p1 SF.u0 SF.u1 D1.1 (by omega) D2.1 (by omega) F.v0 F.v1 F.v2 F.v3
      have HP := Lib.hid hplay
      have HTS := Lib.hid hts
      have HD := Lib.hid hd
      clear hplay hts hd DO D1 D2 hkl
      obtain ⟨ad, eA, x0, x1, x2, x3, x4, x5⟩ := at_T36 HR.out (k : Int) (by omega) (by omega)
      subst eA
      rw [← hs] at x0 x1 x2 x3 x4 x5
      simp only [Int.toNat_natCast] at x0 x1 x2 x3 x4 x5
      replace x0 := pw_cell_below HB.out x0
      replace x1 := pw_cell_below HB.out x1
      replace x2 := pw_cell_below HB.out x2
      replace x3 := pw_cell_below HB.out x3
      replace x4 := pw_cell_below HB.out x4
      replace x5 := pw_cell_below HB.out x5
      clear hs hsk
      go_wp2_with (first
        | (go_at_call 60; refine (HP.out _ (blk_alloc B8.out _)).mono ?_; rintro e w9 ⟨rfl, b9, l9⟩; have B9 := Aside0.mk b9; have L9 := Aside0.mk l9; clear b9 l9;
            have gb : wr.grownBy w9 (some g7) := (World.grownBy_alloc wr _ _).trans L9.out;
            have O9 := Aside0.mk (Kd.R_grown1 HO.out rfl gb (Kd.R_ne HO.out B8.out (by decide)));
            have H9 : Aside0 (Below w.heap.size w w9) := ⟨pw_below_grown HB.out (some g7) HB.out.size gb (by rintro k ⟨⟩; exact G7)⟩; clear gb)
        | ((with_reducible refine gate_builtin (b := .append) (xs := #[.tmp 20, .tmp 25]) rfl ?_); at_builtin; refine Kd.R_append kTm (w0 := w) w.heap.size rfl (.tmp 20) (.tmp 25) 76 83 _ 40 rfl Try.underlying76 info83 rfl (by decide) (by omega) u8 (allT p H (dayAt 6 4) (l.take k)) (playT p H d s s.f4) _ (fun _ => True) (fun _ => False) rfl rfl (kTm_mkM _ _ _ _) (fun _ hk => hk.elim) (fun _ _ => trivial) O9.out H9.out H9.out.size ?aL ?_; (case aL => rw [allT_length, List.length_take]; omega); intro v1 w10 o10 l10 gr10 _at; have O10 := Aside0.mk o10; have L10 := Aside0.mk l10; have N10 := Aside0.mk (blk_grown B9.out gr10 (Kd.R_ne O9.out B9.out (by decide))); clear o10 l10 gr10 _at))
      go_roundw
      case rel =>
        refine ⟨k + 1, by omega, by go_num, ⟨?_⟩, ⟨?_⟩, L10⟩
        · rw [HTS.out, allT_snoc, ← HD.out]
          exact O10.out
        · rw [HTS.out, allD_snoc, ← HD.out]
          exact N10.out
      case measure => simp [intOf]; omega
    · obtain rfl : k = l.length := by omega
      go_wp2
      go_ret
      exact ⟨_, rfl, by simpa using HO.out, HB.out⟩
end Go.Proofs.Ythdbkhdiaehblaa.T
