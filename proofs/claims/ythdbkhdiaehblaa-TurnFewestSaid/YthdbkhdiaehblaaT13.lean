/- Next: the walk. -/
import Derived.Test.YthdbkhdiaehblaaT12
import Derived.Outline
import Derived.Deep.DeepCutAuto
namespace Go.Proofs.Ythdbkhdiaehblaa.T
open Go.RowKit Go.Proofs.YthdbkhdiaehblaaW.PrintWords Go.Proofs.YthdbkhdiaehblaaW.PrintMore
open Go.Proofs.Ythdbkhdiaehblaa.P
set_option linter.unusedVariables false
abbrev withB (s : S36) (n : Int) : S36 := ⟨s.f0, n, s.f2, s.f3, s.f4⟩
def startOf (H : Hs) (l : List S36) (s : S36) : Int := (rd_Tm (allT (pcL H) H (dayAt 6 4) (l ++ [s])) (l.length : Int)).start
/-- A minute at which one more show cannot be late. -/
def NextOk (H : Hs) (l : List S36) (s : S36) (n : Int) : Prop := FollowsOk l (withB s n) ∧ startOf H l (withB s n) = n
instance (H : Hs) (l : List S36) (s : S36) (n : Int) : Decidable (NextOk H l s n) := by unfold NextOk; infer_instance
/-- The first such minute from one on, of so many; and the error that tells whether there is one. -/
def nextFrom (H : Hs) (l : List S36) (s : S36) : Nat → Int → Int × Int
  | 0, _ => (0, 3)
  | k + 1, n => if NextOk H l s n then (n, 0) else nextFrom H l s k (n + 1)
theorem slot_len (s : S36) : ([.int .i64 s.f0, .int .i64 s.f1, .int .i64 s.f2.f0, .int .i64 s.f2.f1, .int .i64 s.f3, .int .i64 s.f4] : List Value).length = 6 := rfl
theorem C_one {w : World} {g : Nat} (s : S36) (b : w.heap[g]? = some (.cells #[.int .i64 s.f0, .int .i64 s.f1, .int .i64 s.f2.f0, .int .i64 s.f2.f1, .int .i64 s.f3, .int .i64 s.f4] 36 (0, 0))) : Kd.C k36 w (some ⟨g, 0, none⟩) 1 [s] := by
  obtain ⟨h0, h1, h2, h3, h4, h5⟩ := slot6 b
  refine ⟨rfl, by omega, fun _ => ⟨_, rfl, ?_⟩⟩
  intro j p hj
  rcases j with _ | j
  · obtain rfl : s = p := by simpa using hj
    refine ⟨_, slot_len s, k36_mk w s, ?_⟩
    intro i u hu
    rcases i with _ | _ | _ | _ | _ | _ | i
    · cases hu; exact h0
    · cases hu; exact h1
    · cases hu; exact h2
    · cases hu; exact h3
    · cases hu; exact h4
    · cases hu; exact h5
    · simp at hu
  · simp at hj
theorem R_past {α : Type} {d : Kd α} {e base g : Nat} {w : World} {v : Value} {xs : List α} {ok : Nat → Prop} (h : d.R e w base ok v xs) (hg : g < base) : some g ≠ v.ownBlock := by
  intro he
  obtain ⟨h0, inner, hown, hr⟩ := h
  have := own_base hown g he.symm
  omega
/-- A row that was made, ready to be read. -/
theorem R_ready {α : Type} {d : Kd α} {e base : Nat} {w : World} {v : Value} {xs : List α} {ok : Nat → Prop} (h : d.R e w base ok v xs) : ∃ A c, v = .slice A xs.length c ∧ xs.length ≤ c ∧ d.C w A xs.length xs := by
  obtain ⟨A, c, rfl⟩ := Kd.R_slice h
  obtain ⟨h1, h2, h3⟩ := Kd.R_reads' h
  exact ⟨A, c, rfl, h2, h3⟩
set_option maxRecDepth 100000 in
set_option maxHeartbeats 2000000 in
theorem next_ok (H : Hs) (l : List S36) (s : S36) (A1 : Option Addr) (c1 : Nat) (w : World) (hv_ : Valid H l) (hs : SlotOk H s) (hlt : l.length < 12)
    (hr : Kd.C k36 w A1 l.length l) (hc : l.length ≤ c1) :
    Calls Try.prog 17 #[hv H, .slice A1 l.length c1, sv s] w fun e w' => e = .returned (.tuple #[.int .i64 (nextFrom H l s 2001 0).1, .int .i64 (nextFrom H l s 2001 0).2]) ∧ Below w.heap.size w w' := by
  have hu25 := Try.underlying25
  have hu36 := Try.underlying36
  have hu83 := Try.underlying83
  have hE : checkE H l = 0 := (checkE_valid H l).mpr hv_
  have hck := fun (W : World) (h : Kd.C k36 W A1 l.length l) => check_calls H l A1 c1 W (by have := hv_.2.1; omega) h hc
  rw [hE] at hck
  have HC := Aside0.mk hck
  have HH := Aside0.mk hv_.1
  have SY := Aside0.mk (fun W => slot_yes H s W hv_.1 hs)
  have HSO := Aside0.mk hs
  have VS := Aside0.mk (valid_slots hv_)
  have hn : (l.length : Int) < 12 := by omega
  have HR := Aside0.mk hr
  have HK := Aside0.mk hc
  clear hr hv_ hck hE hc hs
  go_enter Try.func17, Try.ntmps17
  go_wp2_with (first
    | ((with_reducible refine gate_dst (N := 3) rfl ?_); refine box_event ?hg (N := 3) ?hd (cs := #[.int .i64 H.teams, .int .i64 H.walk, .int .i64 H.early, .int .i64 H.foyer, .int .i64 H.dl, .int .i64 H.dh, .int .i64 H.cl, .int .i64 H.ch]) (t := 25) ?hr ?_; (case hd => rfl); (case hg => rfl); (case hr => first | (go_simp; done) | (go_simp; rfl)); intro g3 e3 w3 b3 l3; have L3 := Aside0.mk l3; have B3 := Aside0.mk b3; clear l3 b3 e3)
    | ((with_reducible refine gate_dst (N := 5) rfl ?_); refine box_event ?hg (N := 5) ?hd (cs := #[.int .i64 s.f0, .int .i64 s.f1, .int .i64 s.f2.f0, .int .i64 s.f2.f1, .int .i64 s.f3, .int .i64 s.f4]) (t := 36) ?hr ?_; (case hd => rfl); (case hg => rfl); (case hr => first | (go_simp; done) | (go_simp; rfl)); intro g5 e5 w5 b5 l5; have L5 := Aside0.mk (below_step L3.out l5); have C3 := Aside0.mk (blk_below B3.out l5); have B5 := Aside0.mk b5; have G5 : Aside0 (w.heap.size ≤ g5) := ⟨by rw [e5]; exact L3.out.size⟩; clear l5 b5 e5; obtain ⟨h0, h1, h2, h3, h4, h5, h6, h7⟩ := house8 C3.out)
    | (go_at_call 29; refine (HC.out _ (Kd.C_below HR.out L5.out)).mono ?_; rintro e w6 ⟨rfl, l6⟩; have L6 := Aside0.mk (below_step L5.out l6); have B6 := Aside0.mk (blk_below C3.out l6); have D6 := Aside0.mk (blk_below B5.out l6); clear l6 h0 h1 h2 h3 h4 h5 h6 h7; obtain ⟨h0, h1, h2, h3, h4, h5, h6, h7⟩ := house8 B6.out; obtain ⟨t0, t1, t2, t3, t4, t5⟩ := slot6 D6.out)
    | (go_at_call 46; refine (SY.out _).mono ?_; rintro e w7 ⟨rfl, l7⟩; have L7 := Aside0.mk (below_step L6.out l7); have B7 := Aside0.mk (blk_below B6.out l7); have D7 := Aside0.mk (blk_below D6.out l7); clear l7 h0 h1 h2 h3 h4 h5 h6 h7 t0 t1 t2 t3 t4 t5; have f1 := blk_frozen D7.out 1; have t1 := blk_cell D7.out 1))
  have L8 := Aside0.mk (below_set (j := 1) (v := .int .i64 0) L7.out G5.out)
  have B8 := Aside0.mk (blk_far B7.out (blk_ne B7.out D7.out (by decide)) (p := ⟨g5, 1, none⟩) (.int .i64 0))
  have D8 := Aside0.mk (blk_put D7.out 1 (.int .i64 0) rfl)
  clear L3 B3 L5 C3 B5 L6 B6 D6 L7 B7 D7 f1 t1
  generalize w7.setCell ⟨g5, 1, none⟩ (.int .i64 0) = w8 at L8 B8 D8 ⊢
  go_loopg [9, 10] 2001 (fun g v9 v10 wr => ∃ n : Int, 0 ≤ n ∧ n + g = 2001 ∧ Aside0 (nextFrom H l s 2001 0 = nextFrom H l s g n) ∧ Aside0 (Below w.heap.size w wr) ∧
    Aside0 (wr.heap[g3]? = some (.cells #[.int .i64 H.teams, .int .i64 H.walk, .int .i64 H.early, .int .i64 H.foyer, .int .i64 H.dl, .int .i64 H.dh, .int .i64 H.cl, .int .i64 H.ch] 25 (0, 0))) ∧
    Aside0 (wr.heap[g5]? = some (.cells #[.int .i64 s.f0, .int .i64 n, .int .i64 s.f2.f0, .int .i64 s.f2.f1, .int .i64 s.f3, .int .i64 s.f4] 36 (0, 0))))
  case atStart => exact ⟨0, by omega, by omega, ⟨rfl⟩, L8, B8, D8⟩
  case round =>
    obtain ⟨n, n0, ng, HN, HW, HB, HD⟩ := hrel
    clear L8 B8 D8
    obtain ⟨t0, t1, t2, t3, t4, t5⟩ := slot6 (s := withB s n) HD.out
    have f1 := blk_frozen HD.out 1
    have hw1 : IntKind.i64.wrap (n + 1) = n + 1 := IntWalk.i64_in _ (by omega)
    by_cases hn2 : n ≤ 2000
    · obtain ⟨g', rfl⟩ : ∃ m, gk = m + 1 := ⟨gk - 1, by omega⟩
      have ng' : n + 1 + (g' : Int) = 2001 := by omega
      by_cases hf : FollowsOk l (withB s n)
      · have HF := Aside0.mk (fun W => follows_yes l (withB s n) A1 c1 W (by omega) hf)
        have HCL := Aside0.mk (fun W => clone_calls l A1 c1 W (by omega))
        have HFO := Aside0.mk hf
        clear hf f1
        go_upto_region 10 with (first
          | (go_at_call 47; refine (HF.out _ (Kd.C_below HR.out HW.out) HK.out).mono ?_; rintro e w9 ⟨rfl, l9⟩; have L9 := Aside0.mk (below_step HW.out l9); have B9 := Aside0.mk (blk_below HB.out l9); have D9 := Aside0.mk (blk_below HD.out l9); clear l9 t0 t1 t2 t3 t4 t5))
        have L9d := Aside0.mk (below_drew1 L9.out)
        have B9d := Aside0.mk (blk_drew B9.out)
        have D9d := Aside0.mk (blk_drew D9.out)
        clear HB HD HW HF
        go_cut [9] (fun v9 wx => ∃ (A : Option Addr) (c : Nat), v9 = .slice A (l ++ [withB s n]).length c ∧ Aside0 ((l ++ [withB s n]).length ≤ c) ∧ Aside0 (Kd.C k36 wx A (l ++ [withB s n]).length (l ++ [withB s n])) ∧ Aside0 (Below w.heap.size w wx) ∧
          Aside0 (wx.heap[g3]? = some (.cells #[.int .i64 H.teams, .int .i64 H.walk, .int .i64 H.early, .int .i64 H.foyer, .int .i64 H.dl, .int .i64 H.dh, .int .i64 H.cl, .int .i64 H.ch] 25 (0, 0))) ∧
          Aside0 (wx.heap[g5]? = some (.cells #[.int .i64 s.f0, .int .i64 n, .int .i64 s.f2.f0, .int .i64 s.f2.f1, .int .i64 s.f3, .int .i64 s.f4] 36 (0, 0))))
        case first =>
          go_region_held3 (fun w' => w'.cell? ⟨g5, 0, none⟩ = some (.int .i64 s.f0) ∧ w'.cell? ⟨g5, 1, none⟩ = some (.int .i64 n) ∧ w'.cell? ⟨g5, 2, none⟩ = some (.int .i64 s.f2.f0) ∧ w'.cell? ⟨g5, 3, none⟩ = some (.int .i64 s.f2.f1) ∧ w'.cell? ⟨g5, 4, none⟩ = some (.int .i64 s.f3) ∧ w'.cell? ⟨g5, 5, none⟩ = some (.int .i64 s.f4))
            (first | exact slot6 (s := withB s n) D9d.out | exact slot6 (s := withB s n) DA.out | exact slot6 (s := withB s n) (blk_drew (blk_alloc D9.out _)) | exact slot6 (s := withB s n) (blk_alloc DA.out _) | exact slot6 (s := withB s n) DB.out | exact slot6 (s := withB s n) DC.out | fail)
            (first
              | (go_at_call 48; (with_reducible refine (HCL.out _ (Kd.C_below HR.out L9d.out) HK.out).mono ?_); rintro e wa ⟨va, rfl, ra, la⟩; have PA := Aside0.mk (R_past ra (blk_lt D9d.out)); have RA := Aside0.mk (Kd.R_lower ra L9d.out.size); have LA := Aside0.mk (below_step L9d.out la); have BA := Aside0.mk (blk_below B9d.out la); have DA := Aside0.mk (blk_below D9d.out la); clear la ra)
              | (go_at_call 48; (with_reducible refine (HCL.out _ (Kd.C_drew (Kd.C_alloc (Kd.C_below HR.out L9.out) _)) HK.out).mono ?_); rintro e wb ⟨vb, rfl, rb, lb⟩; have PB := Aside0.mk (R_past rb (blk_lt (blk_drew (blk_alloc D9.out _)))); have RB := Aside0.mk (Kd.R_lower rb (below_drew1 (below_alloc L9.out _)).size); have LB := Aside0.mk (below_step (below_drew1 (below_alloc L9.out _)) lb); have BB := Aside0.mk (blk_below (blk_drew (blk_alloc B9.out _)) lb); have DB := Aside0.mk (blk_below (blk_drew (blk_alloc D9.out _)) lb); have CB := Aside0.mk (Kd.C_below (C_one (withB s n) (blk_drew (blk_new _ _))) lb); clear lb rb)
              | (refine Kd.R_append_step k36 (w0 := w) w.heap.size rfl (.tmp 39) (.tmp 41) 26 36 _ 48 rfl Try.underlying26 info36 rfl (by decide) (by omega) va l (withB s n) _ (fun _ => True) (fun _ => False) rfl rfl (k36_mkM _ _ _ _) (fun _ hk => hk.elim) (fun _ _ => trivial) RA.out LA.out LA.out.size ?aL ?_; (case aL => omega); intro v1 wc rc lc gc _at; have RC := Aside0.mk rc; have LC := Aside0.mk lc; have BC := Aside0.mk (blk_grown BA.out gc (Kd.R_ne RA.out BA.out (by decide))); have DC := Aside0.mk (blk_grown DA.out gc PA.out); clear rc lc gc _at)
              | (refine Kd.R_append_rows_step k36 (w0 := w) w.heap.size ?hw (.tmp 39) (.tmp 41) 26 36 _ 48 ?ho Try.underlying26 info36 rfl (by decide) (by omega) vb l [withB s n] _ 1 1 (fun _ => True) (fun _ => False) ?hs ?hx RB.out CB.out (fun _ _ h => h) (fun _ h => h.elim) (fun _ _ => trivial) LB.out LB.out.size ?aL ?_; (case hw => rfl); (case ho => rfl); (case hs => rfl); (case hx => rfl); (case aL => omega); intro v1 wc rc lc gc _at; have RC := Aside0.mk rc; have LC := Aside0.mk lc; have BC := Aside0.mk (blk_grown BB.out gc (Kd.R_ne RB.out BB.out (by decide))); have DC := Aside0.mk (blk_grown DB.out gc PB.out); clear rc lc gc _at)
              | fail)
          all_goals (go_wp2_with fail; obtain ⟨A, c, rfl, kc, rc⟩ := R_ready RC.out; go_meet; exact ⟨A, c, rfl, ⟨kc⟩, ⟨rc⟩, LC, BC, DC⟩)
        case rest =>
          obtain ⟨A, c, rfl, KA, RA, LA, BA, DA⟩ := hcut
          clear L9 B9 D9 L9d B9d D9d HCL SY
          obtain ⟨ls, hls⟩ : ∃ ls, ls = l ++ [withB s n] := ⟨_, rfl⟩
          have hll : ls.length = l.length + 1 := by rw [hls]; simp
          have VSS : ∀ y ∈ ls, SlotIn H y := by
            intro y hy
            rw [hls] at hy
            rcases List.mem_append.mp hy with h | h
            · exact VS.out y h
            · rw [List.mem_singleton] at h
              subst h
              exact ⟨HSO.out, n0, hn2⟩
          rw [← hls] at KA RA ⊢
          have VSA := Aside0.mk VSS
          have HL := Lib.hid hls
          have hl100 : ls.length ≤ 100 := by omega
          have HLL := Lib.hid hll
          clear hls VSS hll
          go_wp2_with fail
          have LB := Aside0.mk (below_drew1 LA.out)
          have BB := Aside0.mk (blk_drew BA.out)
          have DB := Aside0.mk (blk_drew DA.out)
          have RB := Aside0.mk (Kd.C_drew RA.out)
          clear LA BA DA RA
          go_region_held3 (fun w' => w'.cell? ⟨g3, 0, none⟩ = some (.int .i64 H.teams) ∧ w'.cell? ⟨g3, 1, none⟩ = some (.int .i64 H.walk) ∧ w'.cell? ⟨g3, 2, none⟩ = some (.int .i64 H.early) ∧ w'.cell? ⟨g3, 3, none⟩ = some (.int .i64 H.foyer) ∧
              w'.cell? ⟨g3, 4, none⟩ = some (.int .i64 H.dl) ∧ w'.cell? ⟨g3, 5, none⟩ = some (.int .i64 H.dh) ∧ w'.cell? ⟨g3, 6, none⟩ = some (.int .i64 H.cl) ∧ w'.cell? ⟨g3, 7, none⟩ = some (.int .i64 H.ch))
            (first | exact house8 BB.out | exact house8 BE.out | exact house8 BF.out | fail)
            (first
              | (go_at_call 43; (with_reducible refine (late_calls H _).mono ?_); rintro e we ⟨rfl, le⟩; have LE := Aside0.mk (below_step LB.out le); have BE := Aside0.mk (blk_below BB.out le); have DE := Aside0.mk (blk_below DB.out le); have RE := Aside0.mk (Kd.C_below RB.out le); clear le)
              | (go_at_call 41; (with_reducible refine (all_late H ls A c _ HH.out VSA.out hl100 RE.out KA.out).mono ?_); rintro e wf ⟨Af, cf, rfl, kf, rf, lf⟩; have LF := Aside0.mk (below_step LE.out lf); have BF := Aside0.mk (blk_below BE.out lf); have DF := Aside0.mk (blk_below DE.out lf); have RF := Aside0.mk rf; have KF := Aside0.mk kf; clear lf rf kf)
              | fail)
          go_wp2_with fail
          obtain ⟨x, hx⟩ : ∃ x, x = rd_Tm (allT (pcL H) H (dayAt 6 4) ls) (l.length : Int) := ⟨_, rfl⟩
          obtain ⟨ad, eA, x0, x1, x2, x3, x4⟩ := at_Tm RF.out (l.length : Int) (by omega) (by have := HLL.out; omega)
          subst eA
          rw [← hx] at x0 x1 x2 x3 x4
          simp only [Int.toNat_natCast] at x0 x1 x2 x3 x4
          have hidx : (l.length : Int) < (ls.length : Int) := by have := HLL.out; omega
          have hso : startOf H l (withB s n) = x.start := by rw [hx, startOf, HL.out]
          have HSO2 := Lib.hid hso
          obtain ⟨t0, t1, t2, t3, t4, t5⟩ := slot6 (s := withB s n) DF.out
          have f1 := blk_frozen DF.out 1
          clear hx hso x0 x1 x3 x4 LB BB DB RB LE BE DE RE
          by_cases hxn : x.start = n
          · have HN' : Aside0 (nextFrom H l s 2001 0 = (n, 0)) := ⟨by rw [HN.out, nextFrom, if_pos ⟨HFO.out, HSO2.out.trans hxn⟩]⟩
            have hb : decide (x.start = n) = true := decide_eq_true hxn
            have hb2 : (x.start == n) = true := by simpa using hxn
            have HX := Lib.hid hxn
            clear hxn
            go_quiet (fail)
            go_wp2_with fail
            go_ret2
            refine ⟨?_, ?_⟩
            · rw [HN'.out]
              rfl
            · exact pw_below_drewN LF.out _
          · have HN' : Aside0 (nextFrom H l s 2001 0 = nextFrom H l s g' (n + 1)) := ⟨by rw [HN.out, nextFrom, if_neg (fun h => hxn (HSO2.out.symm.trans h.2))]⟩
            have hb : decide (x.start = n) = false := decide_eq_false hxn
            have hb2 : (x.start == n) = false := by simpa using hxn
            clear hxn
            go_quiet (fail)
            go_wp2_with fail
            go_roundg g'
            case measure => omega
            case rel => exact ⟨n + 1, by omega, by omega, HN', ⟨below_set (pw_below_drewN LF.out _) G5.out⟩, ⟨blk_far (blk_drewN BF.out _) (blk_ne BF.out DF.out (by decide)) _⟩, ⟨blk_put (blk_drewN DF.out _) 1 _ rfl⟩⟩
      · have HN' : Aside0 (nextFrom H l s 2001 0 = nextFrom H l s g' (n + 1)) := ⟨by rw [HN.out, nextFrom, if_neg (fun h => hf h.1)]⟩
        have HF := Aside0.mk (fun W => follows_no l (withB s n) A1 c1 W (by omega) hf)
        clear HN hf ng
        go_wp2_with (first
          | (go_at_call 47; refine (HF.out _ (Kd.C_below HR.out HW.out) HK.out).mono ?_; rintro e w9 ⟨rfl, l9⟩; have L9 := Aside0.mk (below_step HW.out l9); have B9 := Aside0.mk (blk_below HB.out l9); have D9 := Aside0.mk (blk_below HD.out l9); clear l9 t0 t1 t2 t3 t4 t5 f1; have f1 := blk_frozen D9.out 1; have t1 := blk_cell D9.out 1))
        go_roundg g'
        case measure => omega
        case rel => exact ⟨n + 1, by omega, by omega, HN', ⟨below_set L9.out G5.out⟩, ⟨blk_far B9.out (blk_ne B9.out D9.out (by decide)) _⟩, ⟨blk_put D9.out 1 _ rfl⟩⟩
    · obtain rfl : gk = 0 := by omega
      have HN' := Aside0.mk HN.out
      go_wp2
      go_ret2
      refine ⟨?_, HW.out⟩
      rw [HN.out]
      rfl
end Go.Proofs.Ythdbkhdiaehblaa.T
