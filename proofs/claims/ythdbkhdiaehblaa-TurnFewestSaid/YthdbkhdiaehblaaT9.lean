/- Times: the walk. -/
import Derived.Test.YthdbkhdiaehblaaT6
import Derived.Outline
namespace Go.Proofs.Ythdbkhdiaehblaa.T
open Go.RowKit Go.Proofs.YthdbkhdiaehblaaW.PrintWords Go.Proofs.YthdbkhdiaehblaaW.PrintMore
open Go.Proofs.Ythdbkhdiaehblaa.P
set_option linter.unusedVariables false
def pcE (H : Hs) : Pc := ⟨61, H.cl, H.dh, fun s => s.f2.f0⟩
def pcL (H : Hs) : Pc := ⟨62, H.ch, H.dl, fun s => s.f2.f1⟩
theorem fitsE {H : Hs} (h : HouseOk H) : Fits (pcE H) H := by
  obtain ⟨h1, h2, h3, h4, h5, h6⟩ := h
  exact ⟨by omega, by omega, show 1 ≤ H.dh by omega, show H.dh ≤ 1000 by omega, by omega, by omega, show 0 ≤ H.cl by omega, show H.cl ≤ 1000 by omega, .inl rfl, fun s W => early1_calls s W⟩
theorem fitsL {H : Hs} (h : HouseOk H) : Fits (pcL H) H := by
  obtain ⟨h1, h2, h3, h4, h5, h6⟩ := h
  exact ⟨by omega, by omega, show 1 ≤ H.dl by omega, show H.dl ≤ 1000 by omega, by omega, by omega, show 0 ≤ H.ch by omega, show H.ch ≤ 1000 by omega, .inr rfl, fun s W => late1_calls s W⟩
/-- A slot by itself, and its Begin. -/
def SlotIn (H : Hs) (s : S36) : Prop := SlotOk H s ∧ 0 ≤ s.f1 ∧ s.f1 ≤ 2000
theorem valid_slots {H : Hs} {l : List S36} (h : Valid H l) : ∀ s ∈ l, SlotIn H s := by
  intro s hs
  obtain ⟨i, hi, rfl⟩ := List.mem_iff_getElem.mp hs
  have := h.2.2 i (Nat.zero_le _) hi
  exact ⟨this.1, this.2.1⟩
theorem sfitsE {H : Hs} (h : HouseOk H) {s : S36} (k : SlotIn H s) : SFits (pcE H) s := by
  obtain ⟨⟨h1, h2, h3, h4⟩, h5⟩ := k
  have := h.1
  exact ⟨by omega, by omega, by omega, by omega, by omega, by omega, by omega, by omega, show 0 ≤ s.f2.f0 by omega, show s.f2.f0 ≤ 1000 by omega⟩
theorem sfitsL {H : Hs} (h : HouseOk H) {s : S36} (k : SlotIn H s) : SFits (pcL H) s := by
  obtain ⟨⟨h1, h2, h3, h4⟩, h5⟩ := k
  have := h.1
  exact ⟨by omega, by omega, by omega, by omega, by omega, by omega, by omega, by omega, show 0 ≤ s.f2.f1 by omega, show s.f2.f1 ≤ 1000 by omega⟩
/-- All minutes of a day, as a slice that is read. -/
theorem all_reads (p : Pc) (H : Hs) (l : List S36) (A1 : Option Addr) (c1 : Nat) (w : World) (F : Fits p H) (hS : ∀ s ∈ l, SFits p s) (hn : l.length ≤ 100)
    (hr : Kd.C k36 w A1 l.length l) (hc : l.length ≤ c1) :
    Calls Try.prog 41 #[hv H, .slice A1 l.length c1, pv p] w fun e w' => ∃ A c, e = .returned (.slice A l.length c) ∧ l.length ≤ c ∧ Kd.C kTm w' A l.length (allT p H (dayAt 6 4) l) ∧ Below w.heap.size w w' := by
  refine (all_calls p H l A1 c1 w F hS hn hr hc).mono ?_
  rintro e w' ⟨v, rfl, hR, hb⟩
  obtain ⟨A, c, rfl⟩ := Kd.R_slice hR
  obtain ⟨h1, h2, h3⟩ := Kd.R_reads' hR
  rw [allT_length] at h2 h3 ⊢
  exact ⟨A, c, rfl, h2, h3, hb⟩
theorem all_early (H : Hs) (l : List S36) (A1 : Option Addr) (c1 : Nat) (w : World) (hh : HouseOk H) (hS : ∀ s ∈ l, SlotIn H s) (hn : l.length ≤ 100) (hr : Kd.C k36 w A1 l.length l) (hc : l.length ≤ c1) :
    Calls Try.prog 41 #[.agg #[.int .i64 H.teams, .int .i64 H.walk, .int .i64 H.early, .int .i64 H.foyer, .int .i64 H.dl, .int .i64 H.dh, .int .i64 H.cl, .int .i64 H.ch], .slice A1 l.length c1, .agg #[.func (.func 61) #[] #[], .int .i64 H.cl, .int .i64 H.dh]] w fun e w' => ∃ A c, e = .returned (.slice A l.length c) ∧ l.length ≤ c ∧ Kd.C kTm w' A l.length (allT (pcE H) H (dayAt 6 4) l) ∧ Below w.heap.size w w' :=
  all_reads (pcE H) H l A1 c1 w (fitsE hh) (fun s hs => sfitsE hh (hS s hs)) hn hr hc
theorem all_late (H : Hs) (l : List S36) (A1 : Option Addr) (c1 : Nat) (w : World) (hh : HouseOk H) (hS : ∀ s ∈ l, SlotIn H s) (hn : l.length ≤ 100) (hr : Kd.C k36 w A1 l.length l) (hc : l.length ≤ c1) :
    Calls Try.prog 41 #[.agg #[.int .i64 H.teams, .int .i64 H.walk, .int .i64 H.early, .int .i64 H.foyer, .int .i64 H.dl, .int .i64 H.dh, .int .i64 H.cl, .int .i64 H.ch], .slice A1 l.length c1, .agg #[.func (.func 62) #[] #[], .int .i64 H.ch, .int .i64 H.dl]] w fun e w' => ∃ A c, e = .returned (.slice A l.length c) ∧ l.length ≤ c ∧ Kd.C kTm w' A l.length (allT (pcL H) H (dayAt 6 4) l) ∧ Below w.heap.size w w' :=
  all_reads (pcL H) H l A1 c1 w (fitsL hh) (fun s hs => sfitsL hh (hS s hs)) hn hr hc
theorem house8 {w : World} {g : Nat} {H : Hs} (b : w.heap[g]? = some (.cells #[.int .i64 H.teams, .int .i64 H.walk, .int .i64 H.early, .int .i64 H.foyer, .int .i64 H.dl, .int .i64 H.dh, .int .i64 H.cl, .int .i64 H.ch] 25 (0, 0))) :
    w.cell? ⟨g, 0, none⟩ = some (.int .i64 H.teams) ∧ w.cell? ⟨g, 1, none⟩ = some (.int .i64 H.walk) ∧ w.cell? ⟨g, 2, none⟩ = some (.int .i64 H.early) ∧ w.cell? ⟨g, 3, none⟩ = some (.int .i64 H.foyer) ∧
    w.cell? ⟨g, 4, none⟩ = some (.int .i64 H.dl) ∧ w.cell? ⟨g, 5, none⟩ = some (.int .i64 H.dh) ∧ w.cell? ⟨g, 6, none⟩ = some (.int .i64 H.cl) ∧ w.cell? ⟨g, 7, none⟩ = some (.int .i64 H.ch) :=
  ⟨blk_cell b 0, blk_cell b 1, blk_cell b 2, blk_cell b 3, blk_cell b 4, blk_cell b 5, blk_cell b 6, blk_cell b 7⟩
def mom (a b : Tm) : S34 := ⟨⟨a.enter, b.enter⟩, ⟨a.seated, b.seated⟩, ⟨a.start, b.start⟩, ⟨a.empty, b.empty⟩, ⟨a.ready, b.ready⟩⟩
/-- The earliest and the latest minutes of all slots. -/
def moments (H : Hs) (l : List S36) : List S34 := List.zipWith mom (allT (pcE H) H (dayAt 6 4) l) (allT (pcL H) H (dayAt 6 4) l)
theorem five_one (a b c d e : Int) : (#[.int .i64 a, .int .i64 b, .int .i64 c, .int .i64 d, .int .i64 e] : Array Value).all (·.oneCell') = true := by simp [Value.oneCell']
theorem info83s : (Try.prog.info? 83).map (·.size) = some 5 := by kernel_rfl
/-- What is made and stored whole: all that was there is as it was. -/
theorem new_stored {w wa wb : World} {g : Nat} (la : Below w.heap.size w wa) (hg : w.heap.size ≤ g) (lb : wa.grownBy wb (some g)) : Below w.heap.size w wb :=
  pw_below_grown la (some g) la.size lb (by rintro k ⟨⟩; exact hg)
theorem moments_length (H : Hs) (l : List S36) : (moments H l).length = l.length := by simp [moments, allT_length]
theorem rd_Tm_get (xs : List Tm) (k : Nat) (h : k < xs.length) : rd_Tm xs (k : Int) = xs[k] := by unfold rd_Tm; simp [List.getD_eq_getElem?_getD, List.getElem?_eq_getElem h]
theorem moments_snoc (H : Hs) (l : List S36) (k : Nat) (h : k < l.length) :
    (moments H l).take (k + 1) = (moments H l).take k ++ [mom (rd_Tm (allT (pcE H) H (dayAt 6 4) l) (k : Int)) (rd_Tm (allT (pcL H) H (dayAt 6 4) l) (k : Int))] := by
  rw [List.take_add_one, List.getElem?_eq_getElem (by rw [moments_length]; exact h), rd_Tm_get _ _ (by rw [allT_length]; exact h), rd_Tm_get _ _ (by rw [allT_length]; exact h)]
  simp [moments]
set_option maxRecDepth 100000 in
set_option maxHeartbeats 2000000 in
theorem times_calls (H : Hs) (l : List S36) (A1 : Option Addr) (c1 : Nat) (w : World) (hv_ : Valid H l)
    (hr : Kd.C k36 w A1 l.length l) (hc : l.length ≤ c1) :
    Calls Try.prog 15 #[hv H, .slice A1 l.length c1] w fun e w' => ∃ v, e = .returned (.tuple #[v, .int .i64 0]) ∧ Kd.R k34 34 w' w.heap.size (fun _ => True) v (moments H l) ∧ Below w.heap.size w w' := by
  have hu25 := Try.underlying25
  have hu83 := Try.underlying83
  have hu34 := Try.underlying34
  have hu23 := Try.underlying23
  have hE : checkE H l = 0 := (checkE_valid H l).mpr hv_
  have hck := fun (W : World) (h : Kd.C k36 W A1 l.length l) => check_calls H l A1 c1 W (by have := hv_.2.1; omega) h hc
  have HC := Aside0.mk hck
  rw [hE] at HC
  have HH := Aside0.mk hv_.1
  have VS := Aside0.mk (valid_slots hv_)
  have hn : l.length ≤ 12 := hv_.2.1
  have hn100 : l.length ≤ 100 := by omega
  have HR := Aside0.mk hr
  have HK := Aside0.mk hc
  clear hr hv_ hck hE hc
  go_enter Try.func15, Try.ntmps15
  go_wp2_with (first
    | ((with_reducible refine gate_dst (N := 2) rfl ?_); refine box_event ?hg (N := 2) ?hd (cs := #[.int .i64 H.teams, .int .i64 H.walk, .int .i64 H.early, .int .i64 H.foyer, .int .i64 H.dl, .int .i64 H.dh, .int .i64 H.cl, .int .i64 H.ch]) (t := 25) ?hr ?_; (case hd => rfl); (case hg => rfl); (case hr => first | (go_simp; done) | (go_simp; rfl)); intro g2 e2 w2 b2 l2; have L2 := Aside0.mk l2; have B2 := Aside0.mk b2; clear l2 b2 e2; obtain ⟨h0, h1, h2, h3, h4, h5, h6, h7⟩ := house8 B2.out)
    | (go_at_call 29; refine (HC.out _ (Kd.C_below HR.out L2.out)).mono ?_; rintro e w3 ⟨rfl, l3⟩; have L3 := Aside0.mk (below_step L2.out l3); have B3 := Aside0.mk (blk_below B2.out l3); clear l3 h0 h1 h2 h3 h4 h5 h6 h7))
  have L3d := Aside0.mk (below_drew1 L3.out)
  have B3d := Aside0.mk (blk_drew B3.out)
  clear B2 L2 L3 B3
  go_region_held3 (fun w' => w'.cell? ⟨g2, 0, none⟩ = some (.int .i64 H.teams) ∧ w'.cell? ⟨g2, 1, none⟩ = some (.int .i64 H.walk) ∧ w'.cell? ⟨g2, 2, none⟩ = some (.int .i64 H.early) ∧ w'.cell? ⟨g2, 3, none⟩ = some (.int .i64 H.foyer) ∧
    w'.cell? ⟨g2, 4, none⟩ = some (.int .i64 H.dl) ∧ w'.cell? ⟨g2, 5, none⟩ = some (.int .i64 H.dh) ∧ w'.cell? ⟨g2, 6, none⟩ = some (.int .i64 H.cl) ∧ w'.cell? ⟨g2, 7, none⟩ = some (.int .i64 H.ch))
    (first | exact house8 B3d.out | exact house8 B4.out | exact house8 B5.out | exact house8 B6.out | exact house8 B7.out)
    (first
      | (go_at_call 42; (with_reducible refine (early_calls H _).mono ?_); rintro e w4 ⟨rfl, l4⟩; have L4 := Aside0.mk (below_step L3d.out l4); have B4 := Aside0.mk (blk_below B3d.out l4); clear l4)
      | (go_at_call 43; (with_reducible refine (late_calls H _).mono ?_); rintro e w6 ⟨rfl, l6⟩; have L6 := Aside0.mk (below_step L5.out l6); have B6 := Aside0.mk (blk_below B5.out l6); have R6 := Aside0.mk (Kd.C_below R5.out l6); clear l6)
      | (go_at_call 41; (with_reducible refine (all_early H l A1 c1 _ HH.out VS.out hn100 (Kd.C_below HR.out L4.out) HK.out).mono ?_); rintro e w5 ⟨A5, c5, rfl, k5, r5, l5⟩; have L5 := Aside0.mk (below_step L4.out l5); have B5 := Aside0.mk (blk_below B4.out l5); have R5 := Aside0.mk r5; have K5 := Aside0.mk k5; clear l5 r5 k5)
      | (go_at_call 41; (with_reducible refine (all_late H l A1 c1 _ HH.out VS.out hn100 (Kd.C_below HR.out L6.out) HK.out).mono ?_); rintro e w7 ⟨A7, c7, rfl, k7, r7, l7⟩; have L7 := Aside0.mk (below_step L6.out l7); have B7 := Aside0.mk (blk_below B6.out l7); have R7 := Aside0.mk r7; have R5b := Aside0.mk (Kd.C_below R6.out l7); have K7 := Aside0.mk k7; clear l7 r7 k7))
  go_wp2_with fail
  clear L3d B3d L4 B4 L5 B5 R5 L6 B6 R6 B7
  go_loopw [9, 31] (fun v9 v31 wr => ∃ k : Nat, k ≤ l.length ∧ v31 = .int .i64 k ∧ Aside0 (Kd.R k34 34 wr w7.heap.size (fun _ => True) v9 ((moments H l).take k)) ∧ Aside0 (Below w7.heap.size w7 wr)) (fun _ v _ => l.length - (intOf v).toNat)
  case atStart => exact ⟨0, by omega, rfl, ⟨Kd.R_nil _ _ _ _ _⟩, ⟨Below.refl _ _⟩⟩
  case round =>
    obtain ⟨k, hk, rfl, HO, HW⟩ := hrel
    by_cases hlt : k < l.length
    · obtain ⟨x, hx⟩ : ∃ x, x = rd_Tm (allT (pcE H) H (dayAt 6 4) l) (k : Int) := ⟨_, rfl⟩
      obtain ⟨y, hy⟩ : ∃ y, y = rd_Tm (allT (pcL H) H (dayAt 6 4) l) (k : Int) := ⟨_, rfl⟩
      have hts : (moments H l).take (k + 1) = (moments H l).take k ++ [mom x y] := by
        rw [hx, hy]
        exact moments_snoc H l k hlt
      obtain ⟨ad, eA, x0, x1, x2, x3, x4⟩ := at_Tm R5b.out (k : Int) (by omega) (by omega)
      obtain ⟨ae, eB, y0, y1, y2, y3, y4⟩ := at_Tm R7.out (k : Int) (by omega) (by omega)
      subst eA eB
      rw [← hx] at x0 x1 x2 x3 x4
      rw [← hy] at y0 y1 y2 y3 y4
      simp only [Int.toNat_natCast] at x0 x1 x2 x3 x4 y0 y1 y2 y3 y4
      replace x0 := pw_cell_below HW.out x0
      replace x1 := pw_cell_below HW.out x1
      replace x2 := pw_cell_below HW.out x2
      replace x3 := pw_cell_below HW.out x3
      replace x4 := pw_cell_below HW.out x4
      have Y0 := Aside0.mk (pw_cell_below HW.out y0)
      have Y1 := Aside0.mk (pw_cell_below HW.out y1)
      have Y2 := Aside0.mk (pw_cell_below HW.out y2)
      have Y3 := Aside0.mk (pw_cell_below HW.out y3)
      have Y4 := Aside0.mk (pw_cell_below HW.out y4)
      clear y0 y1 y2 y3 y4
      have HTS := Lib.hid hts
      clear hx hy hts
      go_wp2_with (first
        | ((with_reducible refine gate_dst (N := 11) rfl ?_); refine box_event ?hg (N := 11) ?hd (cs := #[.int .i64 0, .int .i64 0, .int .i64 0, .int .i64 0, .int .i64 0]) (t := 83) ?hr ?_; (case hd => rfl); (case hg => rfl); (case hr => first | (go_simp; done) | (go_simp; rfl)); intro ga ea wa ba la; have La := Aside0.mk la; have Ba := Aside0.mk ba; have Ga : Aside0 (wr.heap.size ≤ ga) := ⟨Nat.le_of_eq ea.symm⟩; clear la ba ea)
        | (refine store_whole rfl 83 (.tmp 11) (.tmp 35) rfl ga #[.int .i64 x.enter, .int .i64 x.seated, .int .i64 x.start, .int .i64 x.empty, .int .i64 x.ready] _ 83 rfl rfl Ba.out rfl info83s (five_one _ _ _ _ _) ?_; intro wb bb lb; have LB := Aside0.mk (new_stored La.out Ga.out lb); have Bb := Aside0.mk bb; clear lb bb; have y0 := pw_cell_below LB.out Y0.out; have y1 := pw_cell_below LB.out Y1.out; have y2 := pw_cell_below LB.out Y2.out; have y3 := pw_cell_below LB.out Y3.out; have y4 := pw_cell_below LB.out Y4.out)
        | ((with_reducible refine gate_dst (N := 12) rfl ?_); refine box_event ?hg (N := 12) ?hd (cs := #[.int .i64 0, .int .i64 0, .int .i64 0, .int .i64 0, .int .i64 0]) (t := 83) ?hr ?_; (case hd => rfl); (case hg => rfl); (case hr => first | (go_simp; done) | (go_simp; rfl)); intro gc ec wc bc lc; have Lc := Aside0.mk lc; have Bc := Aside0.mk bc; have Gc : Aside0 (wb.heap.size ≤ gc) := ⟨Nat.le_of_eq ec.symm⟩; clear lc bc ec)
        | (refine store_whole rfl 83 (.tmp 12) (.tmp 39) rfl gc #[.int .i64 y.enter, .int .i64 y.seated, .int .i64 y.start, .int .i64 y.empty, .int .i64 y.ready] _ 83 rfl rfl Bc.out rfl info83s (five_one _ _ _ _ _) ?_; intro wd bd ld; have LD := Aside0.mk (new_stored Lc.out Gc.out ld); have Bd := Aside0.mk bd; have Be := Aside0.mk (blk_below Bb.out LD.out); clear ld bd y0 y1 y2 y3 y4 x0 x1 x2 x3 x4; have z0 := blk_cell Be.out 0; have z1 := blk_cell Be.out 1; have z2 := blk_cell Be.out 2; have z3 := blk_cell Be.out 3; have z4 := blk_cell Be.out 4; have y0 := blk_cell Bd.out 0; have y1 := blk_cell Bd.out 1; have y2 := blk_cell Bd.out 2; have y3 := blk_cell Bd.out 3; have y4 := blk_cell Bd.out 4)
        | ((with_reducible refine gate_builtin (b := .append) (xs := #[.tmp 40, .tmp 67]) rfl ?_); at_builtin; refine Kd.R_append k34 (w0 := w7) w7.heap.size rfl (.tmp 40) (.tmp 67) 29 34 _ 80 rfl Try.underlying29 info34 rfl (by decide) (by omega) u9 ((moments H l).take k) (mom x y) _ (fun _ => True) (fun _ => False) rfl rfl (k34_mkM _ _ _ _) (fun _ hk => hk.elim) (fun _ _ => trivial) (Kd.R_below (Kd.R_below HO.out LB.out) LD.out) (below_step (below_step HW.out LB.out) LD.out) (below_size (below_step (below_step HW.out LB.out) LD.out)) ?aL ?_; (case aL => rw [List.length_take]; omega); intro v1 w10 o10 l10 gr10 _at; have O10 := Aside0.mk o10; have L10 := Aside0.mk l10; clear o10 l10 gr10 _at))
      go_roundw
      case rel => exact ⟨k + 1, by omega, by go_num, ⟨by rw [HTS.out]; exact O10.out⟩, L10⟩
      case measure => simp [intOf]; omega
    · obtain rfl : k = l.length := by omega
      have HM : Aside0 (Kd.R k34 34 wr w.heap.size (fun _ => True) u9 (moments H l)) := ⟨by have := Kd.R_lower HO.out L7.out.size; rwa [List.take_of_length_le (by rw [moments_length]; omega)] at this⟩
      go_wp2
      go_ret2
      exact ⟨_, rfl, HM.out, below_step L7.out HW.out⟩
end Go.Proofs.Ythdbkhdiaehblaa.T
