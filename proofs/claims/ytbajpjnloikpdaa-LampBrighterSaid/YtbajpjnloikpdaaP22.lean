/- LampBrighter: the walk of the law. -/
import Derived.Test.YtbajpjnloikpdaaP20
namespace Go.Proofs.Ytbajpjnloikpdaa.T
open Go.RowKit Go.Proofs.YtbajpjnloikpdaaW.PrintWords Go.Proofs.YtbajpjnloikpdaaW.PrintMore
open Go.Proofs.Ytbajpjnloikpdaa.P
set_option linter.unusedVariables false
set_option linter.unusedSimpArgs false

abbrev sg (u : Int) (g : S64) : S64 := ⟨g.f0, g.f1 + u, g.f2 + u⟩
abbrev sh (u : Int) (x : Ln) : Ln := ⟨x.f0 + u, x.f1⟩
abbrev br (M : Lm) (u : Int) : Lm := ⟨M.fl + u, M.fh + u, M.al, M.ah, M.nl + u, M.nh + u, M.ra, M.gs.map (sg u), M.wr⟩
theorem light_sh (u : Int) (x : Ln) (h : Int) : light (sh u x) h = light x h + u := by unfold light; simp only; omega
theorem gOk_sh {u : Int} {x : Ln} {g : S64} : gOk (sh u x) (sg u g) ↔ gOk x g := by
  unfold gOk inR
  rw [light_sh]
  simp only
  omega
theorem isK_sh {u a b h : Int} {x : Ln} : isK (a + u) (b + u) (sh u x) h ↔ isK a b x h := by
  unfold isK inR
  rw [light_sh]
  omega
theorem wrongs_sh (u : Int) (x : Ln) : ∀ (l : List S64) (i : Int), wrongsF (sh u x) (l.map (sg u)) i = wrongsF x l i
  | [], _ => rfl
  | g :: l, i => by
    simp only [List.map_cons, wrongsF, wrongs_sh u x l (i + 1)]
    by_cases k : gOk x g
    · rw [if_pos k, if_pos (gOk_sh.mpr k)]
    · rw [if_neg k, if_neg (fun q => k (gOk_sh.mp q))]
theorem pairs_sh (M : Lm) (u : Int) : pairs (br M u) = (pairs M).map (sh u) := by
  unfold pairs
  rw [List.map_flatMap]
  have e1 : nA (br M u) = nA M := by unfold nA; simp only; congr 1; omega
  have e2 : nB (br M u) = nB M := rfl
  rw [e1, e2]
  congr 1
  funext a
  rw [List.map_map]
  congr 1
  funext b
  show (⟨M.fl + u + a, M.al + b⟩ : Ln) = ⟨M.fl + a + u, M.al + b⟩
  congr 1
  omega
theorem truths_sh (M : Lm) (u : Int) : truths (br M u) = (truths M).map (sh u) := by
  unfold truths
  rw [pairs_sh, List.filter_map]
  congr 1
  apply List.filter_congr
  intro x _
  show decide (((wrongsF (sh u x) (M.gs.map (sg u)) 0).length : Int) ≤ M.wr) = _
  rw [wrongs_sh]
theorem ask_sh {M : Lm} {u h : Int} (hV : LampOk M) (hN : LampOk (br M u)) (h0 : inR h 0 40) : askE (br M u) h = askE M h := by
  have e : (truths (br M u)).length = (truths M).length := by rw [truths_sh, List.length_map]
  by_cases hp : (truths M).length = 0
  · rw [askE_3 hV h0 hp, askE_3 hN h0 (by omega)]
  · rw [askE_0 hV h0 hp, askE_0 hN h0 (by omega)]
theorem many_sh {M : Lm} {u : Int} (hV : LampOk M) (hN : LampOk (br M u)) : manyV (br M u) = manyV M := by
  unfold manyV
  rw [if_pos hV, if_pos hN, truths_sh, List.length_map]
theorem badG_sh {u : Int} {t : List Ln} {g : S64} : badG (t.map (sh u)) (sg u g) ↔ badG t g := by
  unfold badG
  constructor
  · exact fun k x hx q => k _ (List.mem_map.mpr ⟨x, hx, rfl⟩) (gOk_sh.mpr q)
  · intro k y hy q
    obtain ⟨x, hx, rfl⟩ := List.mem_map.mp hy
    exact k x hx (gOk_sh.mp q)
theorem blameF_sh (u : Int) (t : List Ln) : ∀ (l : List S64) (i : Int), blameF (t.map (sh u)) (l.map (sg u)) i = blameF t l i
  | [], _ => rfl
  | g :: l, i => by
    simp only [List.map_cons, blameF, blameF_sh u t l (i + 1)]
    by_cases k : badG t g
    · rw [if_pos k, if_pos (badG_sh.mpr k)]
    · rw [if_neg k, if_neg (fun q => k (badG_sh.mp q))]
theorem blame_sh {M : Lm} {u : Int} (hV : LampOk M) (hN : LampOk (br M u)) : blameV (br M u) = blameV M := by
  unfold blameV
  rw [ask_sh hV hN (by decide), truths_sh]
  split
  · exact blameF_sh u _ _ _
  · rfl
theorem at_sh {M : Lm} {u h : Int} (hV : LampOk M) (hN : LampOk (br M u)) (h0 : inR h 0 40) (he : askE M h = 0) : (atV (br M u) h).1 = (atV M h).1 + u ∧ (atV (br M u) h).2 = (atV M h).2 + u := by
  have A := at_spec he
  have B := at_spec ((ask_sh hV hN h0).trans he)
  rw [truths_sh] at B
  refine B.uniq ⟨?_, ?_, ?_, ?_⟩
  · intro y hy
    obtain ⟨x, hx, rfl⟩ := List.mem_map.mp hy
    have := A.lo1 x hx
    rw [light_sh]
    omega
  · obtain ⟨x, hx, e⟩ := A.lo2
    exact ⟨_, List.mem_map.mpr ⟨x, hx, rfl⟩, by rw [light_sh, e]⟩
  · intro y hy
    obtain ⟨x, hx, rfl⟩ := List.mem_map.mp hy
    have := A.hi1 x hx
    rw [light_sh]
    omega
  · obtain ⟨x, hx, e⟩ := A.hi2
    exact ⟨_, List.mem_map.mpr ⟨x, hx, rfl⟩, by rw [light_sh, e]⟩
theorem at_b {M : Lm} {h : Int} (h0 : inR h 0 40) (he : askE M h = 0) : -10000 ≤ (atV M h).1 ∧ (atV M h).1 ≤ 400 ∧ -10000 ≤ (atV M h).2 ∧ (atV M h).2 ≤ 400 := by
  obtain ⟨hV, _, _⟩ := askE_ok he
  have A := at_spec he
  obtain ⟨x, hx, ex⟩ := A.lo2
  obtain ⟨y, hy, ey⟩ := A.hi2
  have px := truths_ok hV.1 hx
  have py := truths_ok hV.1 hy
  have bx := light_b px h0.1 (show h ≤ 1000 by have := h0.2; omega)
  have bY := light_b py h0.1 (show h ≤ 1000 by have := h0.2; omega)
  have := px.a0
  have := px.a1
  have := py.a0
  have := py.a1
  unfold light at ex ey
  omega
theorem cntK_sh {u a b h : Int} : ∀ (t : List Ln), cntK (a + u) (b + u) (t.map (sh u)) h = cntK a b t h := by
  intro t
  unfold cntK
  rw [List.filter_map, List.length_map]
  congr 1
  apply List.filter_congr
  intro x _
  simp only [Function.comp, isK_sh]
theorem keepsT_sh {u a b h : Int} (t : List Ln) : keepsT (a + u) (b + u) (t.map (sh u)) h = keepsT a b t h := by
  unfold keepsT
  rw [cntK_sh, List.length_map]
theorem may_sh {u a b f ra : Int} (t : List Ln) : mayT (a + u) (b + u) f ra (t.map (sh u)) = mayT a b f ra t := by
  unfold mayT
  rw [List.foldl_map]
  congr 1
  funext m x
  congr 2
  funext h
  exact propext isK_sh
theorem sure_sh {u a b f ra : Int} (t : List Ln) : sureT (a + u) (b + u) f ra (t.map (sh u)) = sureT a b f ra t := by
  unfold sureT
  congr 1
  funext h
  rw [keepsT_sh]
theorem until_sh {M : Lm} {u h : Int} (hV : LampOk M) (hN : LampOk (br M u)) (h0 : inR h 0 40) : untilV (br M u) h = untilV M h := by
  unfold untilV
  rw [ask_sh hV hN h0, truths_sh]
  show (if askE M h = 0 then (sureT (M.nl + u) (M.nh + u) h M.ra _, mayT (M.nl + u) (M.nh + u) h M.ra _) else (0, 0)) = _
  rw [sure_sh, may_sh]
theorem row64_at {W : World} {base : Nat} {A : Option Addr} {n c : Nat} {xs : List S64} {i : Nat} {s : S64} (R : Kd.R k64 64 W base (fun _ => True) (.slice A n c) xs) (hs : xs[i]? = some s) :
    ∃ g, A = some ⟨g, 0, none⟩ ∧ base ≤ g ∧ W.cell? ⟨g, i * 3 + 1, none⟩ = some (.int .i64 s.f1) ∧ W.cell? ⟨g, i * 3 + 2, none⟩ = some (.int .i64 s.f2) ∧ W.frozen? ⟨g, i * 3 + 1, none⟩ = false ∧ W.frozen? ⟨g, i * 3 + 2, none⟩ = false ∧
      (∀ t : Int, Kd.R k64 64 (W.setCell ⟨g, i * 3 + 1, none⟩ (.int .i64 t)) base (fun _ => True) (.slice A n c) (xs.set i ⟨s.f0, t, s.f2⟩) ∧ W.grownBy (W.setCell ⟨g, i * 3 + 1, none⟩ (.int .i64 t)) (some g)) ∧
      (∀ t : Int, Kd.R k64 64 (W.setCell ⟨g, i * 3 + 2, none⟩ (.int .i64 t)) base (fun _ => True) (.slice A n c) (xs.set i ⟨s.f0, s.f1, t⟩) ∧ W.grownBy (W.setCell ⟨g, i * 3 + 2, none⟩ (.int .i64 t)) (some g)) := by
  have hil : i < xs.length := (List.getElem?_eq_some_iff.1 hs).1
  obtain ⟨g, cap, hv, hb, hl, cells, hc⟩ := Kd.R_form R (by omega)
  have hn := (Kd.R_reads' R).1
  injection hv with hA hn' hc'
  subst hA hc'
  obtain ⟨cs, h1, h2, h3, h4⟩ := Kd.R_elem R z64 (i : Int) (by omega) (by omega)
  have hx : xs.getD i z64 = s := by simp [List.getD_eq_getElem?_getD, hs]
  rw [Int.toNat_natCast, hx] at h2
  obtain rfl := k64_open (Kd.K_of_M k64 h2)
  rw [Int.toNat_natCast] at h3 h4
  refine ⟨g, rfl, hb, h3 1 _ rfl, h3 2 _ rfl, h4 1, h4 2, fun t => ?_, fun t => ?_⟩
  · have := Kd.R_seg R (i : Int) (by omega) (by omega) (seg := [.int .i64 t]) (j := 1) h1 (by rw [Int.toNat_natCast]; exact h3) (by show 1 + 1 ≤ 3; decide) (x' := (⟨s.f0, t, s.f2⟩ : S64)) (okp := fun _ => False) (k64_mkM _ _ _ (⟨s.f0, t, s.f2⟩ : S64)) (fun _ hk => hk.elim)
    rw [Int.toNat_natCast] at this
    exact this
  · have := Kd.R_seg R (i : Int) (by omega) (by omega) (seg := [.int .i64 t]) (j := 2) h1 (by rw [Int.toNat_natCast]; exact h3) (by show 2 + 1 ≤ 3; decide) (x' := (⟨s.f0, s.f1, t⟩ : S64)) (okp := fun _ => False) (k64_mkM _ _ _ (⟨s.f0, s.f1, t⟩ : S64)) (fun _ hk => hk.elim)
    rw [Int.toNat_natCast] at this
    exact this
/-- The readings up to a place are greater. -/
def upB (u : Int) (l : List S64) (i : Nat) : List S64 := (l.take i).map (sg u) ++ l.drop i
theorem upB_len (u : Int) (l : List S64) (i : Nat) : (upB u l i).length = l.length := by
  unfold upB
  simp only [List.length_append, List.length_map, List.length_take, List.length_drop]
  omega
theorem upB_at {u : Int} {l : List S64} {i : Nat} {g : S64} (hg : l[i]? = some g) : (upB u l i)[i]? = some g := by
  have h := (List.getElem?_eq_some_iff.1 hg).1
  unfold upB
  rw [List.getElem?_append_right (by simp; omega)]
  simp only [List.length_map, List.length_take, List.getElem?_drop]
  rw [show i + (i - min i l.length) = i by omega]
  exact hg
theorem upB_step {u : Int} {l : List S64} {i : Nat} {g : S64} (hg : l[i]? = some g) : upB u l (i + 1) = (upB u l i).set i (sg u g) := by
  have h := (List.getElem?_eq_some_iff.1 hg).1
  have e : l[i] = g := by have := List.getElem?_eq_getElem h; rw [hg] at this; exact (Option.some.inj this).symm
  unfold upB
  rw [List.set_append_right _ _ (by simp; omega), List.take_add_one, hg]
  simp only [List.length_map, List.length_take, Option.toList_some, List.map_append, List.map_cons, List.map_nil, List.append_assoc]
  rw [show i - min i l.length = 0 by omega, List.drop_eq_getElem_cons h, List.set_cons_zero]
  rfl
theorem upB_all (u : Int) (l : List S64) : upB u l l.length = l.map (sg u) := by unfold upB; simp
set_option maxRecDepth 100000 in
set_option maxHeartbeats 8000000 in

theorem bright_law (M : Lm) (A : Option Addr) (c : Nat) (u h : Int) (w : World) (hr : Kd.C k64 w A M.gs.length M.gs) :
    Calls Try.prog 9 #[lv M A c, .int .i64 u, .int .i64 h] w fun e w' => e = .returned (.bool true) ∧ Below w.heap.size w w' := by
  have hu3 := Try.underlying3
  have hu23 := Try.underlying23
  have hu24 := Try.underlying24
  have hu26 := Try.underlying26
  have hu64 := Try.underlying64
  obtain ⟨z3, o3⟩ := info_some info3s (by decide)
  obtain ⟨z23, o23⟩ := info_some info23s (by decide)
  obtain ⟨z24, o24⟩ := info_some info24s (by decide)
  obtain ⟨z64, o64⟩ := info_some info64s (by decide)
  refine E.enter (N := 205) Try.func9 rfl Try.ntmps9 (args := [lv M A c, .int .i64 u, .int .i64 h]) (by simp) ?_
  have L := Below.refl w.heap.size w
  refine E.CG.seq ?_
  refine E.CG.list ?_
  refine E.GL.st rfl rfl rfl (E.ST.box rfl rfl fun g3 w3 e3 b3 l3 => ?_)
  have h3_L : w.heap.size ≤ g3 := by rw [e3]; exact L.size
  replace L := below_step L l3
  refine E.GL.run rfl rfl rfl (E.Runs.assign rfl rfl) ?_
  refine E.GL.done ?_
  refine E.QG.code ?_
  refine E.CG.seq ?_
  refine E.CG.seq ?_
  refine E.CG.list ?_
  refine E.GL.run rfl rfl rfl (E.Runs.loads (cs := [.int .i64 M.fl, .int .i64 M.fh, .int .i64 M.al, .int .i64 M.ah, .int .i64 M.nl, .int .i64 M.nh, .int .i64 M.ra, .slice A M.gs.length c, .int .i64 M.wr]) rfl rfl hu26 rfl info26s (blk_cells b3)) ?_
  by_cases h28 : ¬ far M ∧ LampOk M
  · have hg6 := ready_few h28.1
    have hV0 := h28.2
    obtain ⟨⟨vf1, vf2, vf3⟩, ⟨vn1, vn2, vn3⟩, _⟩ := h28.2.1
    have hbf := blameV_few M
    refine E.GL.st rfl rfl rfl (E.ST.call rfl ent18 (E.evc rfl E.evn) ((ready_calls M A c _ true (iff_of_true rfl h28) (Kd.C_below hr L)).mono ?_))
    rintro e w28 ⟨rfl, l28⟩
    refine ⟨_, rfl, ?_⟩
    replace b3 := blk_below b3 l28
    replace L := below_step L l28
    refine E.GL.run rfl rfl rfl (E.Runs.not rfl rfl) ?_
    refine E.GL.run rfl rfl rfl (E.Runs.move rfl rfl) ?_
    refine E.GL.run rfl rfl rfl (E.Runs.move rfl rfl) ?_
    by_cases h32 : inR h 0 40
    · refine E.GL.st rfl rfl rfl (E.ST.call rfl ent19 (E.evc rfl E.evn) ((ishour_calls h _ true (iff_of_true rfl h32)).mono ?_))
      rintro e w32 ⟨rfl, l32⟩
      refine ⟨_, rfl, ?_⟩
      replace b3 := blk_below b3 l32
      replace L := below_step L l32
      refine E.GL.run rfl rfl rfl (E.Runs.not rfl rfl) ?_
      refine E.GL.run rfl rfl rfl (E.Runs.pick_f rfl rfl rfl) ?_
      refine E.GL.run rfl rfl rfl (E.Runs.move rfl rfl) ?_
      refine E.GL.run rfl rfl rfl (E.Runs.move rfl rfl) ?_
      refine E.GL.cmp rfl rfl rfl (fun _ h => (E.Runs.lss rfl rfl rfl h)) (fun h37 => ?_) (fun h37 => ?_)
      · refine E.GL.run rfl rfl rfl (E.Runs.pick_f rfl rfl rfl) ?_
        refine E.GL.run rfl rfl rfl (E.Runs.move rfl rfl) ?_
        refine E.GL.skip rfl rfl rfl ?_
        refine E.GL.skip rfl rfl rfl ?_
        refine E.GL.run rfl rfl rfl (E.Runs.pick_t rfl rfl rfl) ?_
        refine E.GL.done ?_
        refine E.QG.code ?_
        refine E.CG.cond_t rfl ?_
        refine E.CG.seq ?_
        refine E.CG.list ?_
        refine E.GL.st rfl rfl rfl (E.ST.call rfl ent13 E.evn ((works_calls _).mono ?_))
        rintro e w43 ⟨rfl, l43⟩
        refine ⟨_, rfl, ?_⟩
        replace b3 := blk_below b3 l43
        replace L := below_step L l43
        refine E.GL.run rfl rfl rfl (E.Runs.assign rfl rfl) ?_
        refine E.GL.done ?_
        refine E.QG.code ?_
        refine E.CG.ret ?_
        refine E.QG.pass_ret ?_
        exact E.QG.result rfl rfl ⟨rfl, L⟩
      · refine E.GL.run rfl rfl rfl (E.Runs.pick_f rfl rfl rfl) ?_
        refine E.GL.run rfl rfl rfl (E.Runs.move rfl rfl) ?_
        refine E.GL.run rfl rfl rfl (E.Runs.move rfl rfl) ?_
        refine E.GL.cmp rfl rfl rfl (fun _ h => (E.Runs.gtr rfl rfl rfl h)) (fun h41 => ?_) (fun h41 => ?_)
        · refine E.GL.run rfl rfl rfl (E.Runs.pick_f rfl rfl rfl) ?_
          refine E.GL.done ?_
          refine E.QG.code ?_
          refine E.CG.cond_t rfl ?_
          refine E.CG.seq ?_
          refine E.CG.list ?_
          refine E.GL.st rfl rfl rfl (E.ST.call rfl ent13 E.evn ((works_calls _).mono ?_))
          rintro e w43 ⟨rfl, l43⟩
          refine ⟨_, rfl, ?_⟩
          replace b3 := blk_below b3 l43
          replace L := below_step L l43
          refine E.GL.run rfl rfl rfl (E.Runs.assign rfl rfl) ?_
          refine E.GL.done ?_
          refine E.QG.code ?_
          refine E.CG.ret ?_
          refine E.QG.pass_ret ?_
          exact E.QG.result rfl rfl ⟨rfl, L⟩
        · refine E.GL.run rfl rfl rfl (E.Runs.pick_f rfl rfl rfl) ?_
          refine E.GL.done ?_
          refine E.QG.code ?_
          refine E.CG.cond_f rfl ?_
          refine E.CG.skip ?_
          refine E.QG.code ?_
          refine E.CG.seq ?_
          refine E.CG.list ?_
          refine E.GL.run rfl rfl rfl (E.Runs.loads (cs := [.int .i64 M.fl, .int .i64 M.fh, .int .i64 M.al, .int .i64 M.ah, .int .i64 M.nl, .int .i64 M.nh, .int .i64 M.ra, .slice A M.gs.length c, .int .i64 M.wr]) rfl rfl hu26 rfl info26s (blk_cells b3)) ?_
          have hs45 := L.size
          refine E.GL.st rfl rfl rfl (E.ST.call rfl ent15 (E.evc rfl E.evn) ((copy_calls M A c _ (Kd.C_below hr L) hg6).mono ?_))
          rintro e w45 ⟨A2, c2, rfl, R2, l45⟩
          refine ⟨_, rfl, ?_⟩
          replace b3 := blk_below b3 l45
          replace L := below_step L l45
          replace R2 := Kd.R_lower R2 hs45
          refine E.GL.st rfl rfl rfl (E.ST.alloc rfl info26z fun g7 w7 e7 b7 l7 => ?_)
          have h7_L : w.heap.size ≤ g7 := by rw [e7]; exact L.size
          have n7_b3 : g3 ≠ g7 := by have := blk_lt b3; omega
          have n7_R2 : some g7 ≠ ((Value.slice A2 M.gs.length c2)).ownBlock := fun h => by have := Kd.R_lt R2 _ h.symm; omega
          replace b3 := blk_below b3 l7
          replace R2 := Kd.R_below R2 l7
          replace L := below_step L l7
          refine E.GL.store_whole rfl rfl rfl rfl rfl b7 rfl info26s (nine_one _ _ _ _ _ _ _ _ _ _ _) fun wS3_3 c7 lS3_3 => ?_
          replace b3 := blk_grown b3 lS3_3 (E.nes (by first | assumption | exact Ne.symm (by assumption)))
          replace R2 := Kd.R_grown1 R2 rfl lS3_3 (by first | assumption | exact Kd.R_ne R2 b7 (by decide))
          replace L := E.below_own L h7_L lS3_3
          replace b7 := c7
          clear c7
          refine E.GL.done ?_
          refine E.QG.code ?_
          refine E.CG.seq ?_
          refine E.CG.list ?_
          refine E.GL.run rfl rfl rfl (E.Runs.fieldAddr rfl rfl hu26 rfl (by assumption) rfl) ?_
          refine E.GL.run rfl rfl rfl (E.Runs.fieldAddr rfl rfl hu23 rfl (by assumption) rfl) ?_
          refine E.GL.run rfl rfl rfl (E.Runs.load rfl rfl hu3 (by first | assumption | exact E.blkc (by assumption) rfl | exact pw_cell_below L (by assumption))) ?_
          refine E.GL.run rfl rfl rfl (E.Runs.move rfl rfl) ?_
          refine E.GL.run rfl rfl rfl (E.Runs.add rfl rfl rfl (IntWalk.i64_in _ (by omega))) ?_
          refine E.GL.run rfl rfl rfl (E.Runs.fieldAddr rfl rfl hu26 rfl (by assumption) rfl) ?_
          refine E.GL.run rfl rfl rfl (E.Runs.fieldAddr rfl rfl hu23 rfl (by assumption) rfl) ?_
          refine E.GL.run rfl rfl rfl (E.Runs.load rfl rfl hu3 (by first | assumption | exact E.blkc (by assumption) rfl | exact pw_cell_below L (by assumption))) ?_
          refine E.GL.run rfl rfl rfl (E.Runs.move rfl rfl) ?_
          refine E.GL.run rfl rfl rfl (E.Runs.add rfl rfl rfl (IntWalk.i64_in _ (by omega))) ?_
          refine E.GL.run rfl rfl rfl (E.Runs.build rfl (E.epc rfl (E.epc rfl E.epn)) (build23 _ _)) ?_
          refine E.GL.run rfl rfl rfl (E.Runs.fieldAddr rfl rfl hu26 rfl (by assumption) rfl) ?_
          refine E.GL.sn rfl rfl (E.ST.storeS (off := 0) (cells := [.int .i64 (M.fl + u), .int .i64 (M.fh + u)]) rfl rfl rfl b7 rfl info23s (two_one _ _) (show _ = [.int .i64 (M.fl + u), .int .i64 (M.fh + u), .int .i64 M.al, .int .i64 M.ah, .int .i64 M.nl, .int .i64 M.nh, .int .i64 M.ra, .slice A2 M.gs.length c2, .int .i64 M.wr] from rfl) fun wS4_12 c7 lS4_12 => ?_)
          replace b3 := blk_grown b3 lS4_12 (E.nes (by first | assumption | exact Ne.symm (by assumption)))
          replace R2 := Kd.R_grown1 R2 rfl lS4_12 (by first | assumption | exact Kd.R_ne R2 b7 (by decide))
          replace L := E.below_own L h7_L lS4_12
          replace b7 := c7
          clear c7
          have b7_ : wS4_12.heap[g7]? = some (.cells #[.int .i64 (M.fl + u), .int .i64 (M.fh + u), .int .i64 M.al, .int .i64 M.ah, .int .i64 M.nl, .int .i64 M.nh, .int .i64 M.ra, .slice A2 M.gs.length c2, .int .i64 M.wr] 26 (0, 0)) := b7
          replace b7 := b7_
          clear b7_
          refine E.GL.done ?_
          refine E.QG.code ?_
          refine E.CG.seq ?_
          refine E.CG.list ?_
          refine E.GL.run rfl rfl rfl (E.Runs.fieldAddr rfl rfl hu26 rfl (by assumption) rfl) ?_
          refine E.GL.run rfl rfl rfl (E.Runs.fieldAddr rfl rfl hu23 rfl (by assumption) rfl) ?_
          refine E.GL.run rfl rfl rfl (E.Runs.load rfl rfl hu3 (by first | assumption | exact E.blkc (by assumption) rfl | exact pw_cell_below L (by assumption))) ?_
          refine E.GL.run rfl rfl rfl (E.Runs.move rfl rfl) ?_
          refine E.GL.run rfl rfl rfl (E.Runs.add rfl rfl rfl (IntWalk.i64_in _ (by omega))) ?_
          refine E.GL.run rfl rfl rfl (E.Runs.fieldAddr rfl rfl hu26 rfl (by assumption) rfl) ?_
          refine E.GL.run rfl rfl rfl (E.Runs.fieldAddr rfl rfl hu23 rfl (by assumption) rfl) ?_
          refine E.GL.run rfl rfl rfl (E.Runs.load rfl rfl hu3 (by first | assumption | exact E.blkc (by assumption) rfl | exact pw_cell_below L (by assumption))) ?_
          refine E.GL.run rfl rfl rfl (E.Runs.move rfl rfl) ?_
          refine E.GL.run rfl rfl rfl (E.Runs.add rfl rfl rfl (IntWalk.i64_in _ (by omega))) ?_
          refine E.GL.run rfl rfl rfl (E.Runs.build rfl (E.epc rfl (E.epc rfl E.epn)) (build23 _ _)) ?_
          refine E.GL.run rfl rfl rfl (E.Runs.fieldAddr rfl rfl hu26 rfl (by assumption) rfl) ?_
          refine E.GL.sn rfl rfl (E.ST.storeS (off := 4) (cells := [.int .i64 (M.nl + u), .int .i64 (M.nh + u)]) rfl rfl rfl b7 rfl info23s (two_one _ _) (show _ = [.int .i64 (M.fl + u), .int .i64 (M.fh + u), .int .i64 M.al, .int .i64 M.ah, .int .i64 (M.nl + u), .int .i64 (M.nh + u), .int .i64 M.ra, .slice A2 M.gs.length c2, .int .i64 M.wr] from rfl) fun wS5_12 c7 lS5_12 => ?_)
          replace b3 := blk_grown b3 lS5_12 (E.nes (by first | assumption | exact Ne.symm (by assumption)))
          replace R2 := Kd.R_grown1 R2 rfl lS5_12 (by first | assumption | exact Kd.R_ne R2 b7 (by decide))
          replace L := E.below_own L h7_L lS5_12
          replace b7 := c7
          clear c7
          have b7_ : wS5_12.heap[g7]? = some (.cells #[.int .i64 (M.fl + u), .int .i64 (M.fh + u), .int .i64 M.al, .int .i64 M.ah, .int .i64 (M.nl + u), .int .i64 (M.nh + u), .int .i64 M.ra, .slice A2 M.gs.length c2, .int .i64 M.wr] 26 (0, 0)) := b7
          replace b7 := b7_
          clear b7_
          refine E.GL.done ?_
          refine E.QG.code ?_
          refine E.CG.seq ?_
          refine E.CG.seq ?_
          refine E.CG.list ?_
          refine E.GL.run rfl rfl rfl (E.Runs.assign rfl rfl) ?_
          refine E.GL.done ?_
          refine E.QG.code ?_
          refine E.CG.block ?_
          have s7_b3 := b3
          have s7_b7 := b7
          have s7_L := L
          refine E.CG.loop (fun (i : Nat) => [(1, .int .i64 u), (2, .int .i64 h), (3, .pointer (some ⟨g3, 0, none⟩)), (7, .pointer (some ⟨g7, 0, none⟩)), (8, .int .i64 i)]) (fun i w' => i ≤ M.gs.length ∧ w'.heap[g3]? = some (.cells #[.int .i64 M.fl, .int .i64 M.fh, .int .i64 M.al, .int .i64 M.ah, .int .i64 M.nl, .int .i64 M.nh, .int .i64 M.ra, .slice A M.gs.length c, .int .i64 M.wr] 26 (0, 0)) ∧ w'.heap[g7]? = some (.cells #[.int .i64 (M.fl + u), .int .i64 (M.fh + u), .int .i64 M.al, .int .i64 M.ah, .int .i64 (M.nl + u), .int .i64 (M.nh + u), .int .i64 M.ra, .slice A2 M.gs.length c2, .int .i64 M.wr] 26 (0, 0)) ∧ Kd.R k64 64 w' w.heap.size (fun _ => True) (.slice A2 M.gs.length c2) (upB u M.gs i) ∧ Below w.heap.size w w') (fun i => M.gs.length - i) 0 (E.subc rfl (E.subc rfl (E.subc rfl (E.subc rfl (E.subc rfl E.subn))))) ⟨Nat.zero_le _, b3, b7, by unfold upB; simpa using R2, L⟩ ?_
          rintro i w7 ⟨hi, b3, b7, R2, L⟩
          refine E.CG.seq ?_
          refine E.CG.seq ?_
          refine E.CG.list ?_
          refine E.GL.run rfl rfl rfl (E.Runs.move rfl rfl) ?_
          refine E.GL.run rfl rfl rfl (E.Runs.fieldAddr rfl rfl hu26 rfl (by assumption) rfl) ?_
          refine E.GL.run rfl rfl rfl (E.Runs.load1 rfl rfl hu24 rfl (by first | assumption | exact E.blkc (by assumption) rfl | exact pw_cell_below L (by assumption))) ?_
          refine E.GL.run rfl rfl rfl (E.Runs.len rfl rfl hu24) ?_
          refine E.GL.cmp rfl rfl rfl (fun _ h => (E.Runs.lss rfl rfl rfl h)) (fun h74 => ?_) (fun h74 => ?_)
          · obtain ⟨g, hg⟩ : ∃ g, M.gs[i]? = some g := ⟨_, List.getElem?_eq_getElem (by omega)⟩
            obtain ⟨gR, eA, hgR, cf1, cf2, fr1, fr2, st1, _⟩ := row64_at R2 (upB_at hg)
            have hig : (i : Int) < M.gs.length := by omega
            obtain ⟨gg1, gg2, gg3⟩ := (hV0.2 g (List.mem_of_getElem? hg)).2
            refine E.GL.done ?_
            refine E.QG.code ?_
            refine E.CG.cond_t rfl ?_
            refine E.CG.skip ?_
            refine E.QG.code ?_
            refine E.CG.seq ?_
            refine E.CG.block ?_
            refine E.CG.seq ?_
            refine E.CG.list ?_
            refine E.GL.run rfl rfl rfl (E.Runs.fieldAddr rfl rfl hu26 rfl (by assumption) rfl) ?_
            refine E.GL.run rfl rfl rfl (E.Runs.load1 rfl rfl hu24 rfl (by first | assumption | exact E.blkc (by assumption) rfl | exact pw_cell_below L (by assumption))) ?_
            refine E.GL.run rfl rfl rfl (E.Runs.move rfl rfl) ?_
            refine E.GL.run rfl rfl rfl (E.Runs.indexAddrA rfl rfl rfl hu24 (by assumption) (by assumption) (by assumption) (by first | rfl | assumption) (show _ = (⟨gR, i * 3, none⟩ : Addr) from by rw [Go.Addr.add_mid, Nat.zero_add])) ?_
            refine E.GL.run rfl rfl rfl (E.Runs.fieldAddr rfl rfl hu64 rfl (by assumption) rfl) ?_
            refine E.GL.run rfl rfl rfl (E.Runs.load rfl rfl hu3 (by first | assumption | exact E.blkc (by assumption) rfl | exact pw_cell_below L (by assumption))) ?_
            refine E.GL.run rfl rfl rfl (E.Runs.move rfl rfl) ?_
            refine E.GL.run rfl rfl rfl (E.Runs.add rfl rfl rfl (IntWalk.i64_in _ (by omega))) ?_
            refine E.GL.run rfl rfl rfl (E.Runs.indexAddrA rfl rfl rfl hu24 (by assumption) (by assumption) (by assumption) (by first | rfl | assumption) (show _ = (⟨gR, i * 3, none⟩ : Addr) from by rw [Go.Addr.add_mid, Nat.zero_add])) ?_
            refine E.GL.run rfl rfl rfl (E.Runs.fieldAddr rfl rfl hu64 rfl (by assumption) rfl) ?_
            refine E.GL.sn rfl rfl (E.ST.store1 rfl z3 o3 rfl rfl cf1 fr1 ?_)
            obtain ⟨RJ, gJ⟩ := st1 (g.f1 + u)
            obtain ⟨wJ1, hwJ1⟩ : ∃ wJ, wJ = World.setCell w7 ⟨gR, i * 3 + 1, none⟩ (.int .i64 (g.f1 + u)) := ⟨_, rfl⟩
            rw [← hwJ1] at RJ gJ
            rw [← hwJ1]
            replace b3 := blk_grown b3 gJ (show some g3 ≠ some gR from by have := Kd.R_ne R2 b3 (by decide); rw [eA] at this; exact this)
            replace b7 := blk_grown b7 gJ (show some g7 ≠ some gR from by have := Kd.R_ne R2 b7 (by decide); rw [eA] at this; exact this)
            replace L := E.below_own L hgR gJ
            replace R2 := RJ
            clear RJ gJ
            obtain ⟨gR2, eA2, _, _, cf2, _, fr2, _, st2⟩ := row64_at R2 (s := ⟨g.f0, g.f1 + u, g.f2⟩) (by rw [List.getElem?_set_self (by rw [upB_len]; omega)])
            obtain rfl : gR = gR2 := by rw [eA] at eA2; injection eA2 with e; injection e
            dsimp only at cf2 st2
            refine E.GL.done ?_
            refine E.QG.code ?_
            refine E.CG.list ?_
            refine E.GL.run rfl rfl rfl (E.Runs.fieldAddr rfl rfl hu26 rfl (by assumption) rfl) ?_
            refine E.GL.run rfl rfl rfl (E.Runs.load1 rfl rfl hu24 rfl (by first | assumption | exact E.blkc (by assumption) rfl | exact pw_cell_below L (by assumption))) ?_
            refine E.GL.run rfl rfl rfl (E.Runs.move rfl rfl) ?_
            refine E.GL.run rfl rfl rfl (E.Runs.indexAddrA rfl rfl rfl hu24 (by assumption) (by assumption) (by assumption) (by first | rfl | assumption) (show _ = (⟨gR, i * 3, none⟩ : Addr) from by rw [Go.Addr.add_mid, Nat.zero_add])) ?_
            refine E.GL.run rfl rfl rfl (E.Runs.fieldAddr rfl rfl hu64 rfl (by assumption) rfl) ?_
            refine E.GL.run rfl rfl rfl (E.Runs.load rfl rfl hu3 (by first | assumption | exact E.blkc (by assumption) rfl | exact pw_cell_below L (by assumption))) ?_
            refine E.GL.run rfl rfl rfl (E.Runs.move rfl rfl) ?_
            refine E.GL.run rfl rfl rfl (E.Runs.add rfl rfl rfl (IntWalk.i64_in _ (by omega))) ?_
            refine E.GL.run rfl rfl rfl (E.Runs.indexAddrA rfl rfl rfl hu24 (by assumption) (by assumption) (by assumption) (by first | rfl | assumption) (show _ = (⟨gR, i * 3, none⟩ : Addr) from by rw [Go.Addr.add_mid, Nat.zero_add])) ?_
            refine E.GL.run rfl rfl rfl (E.Runs.fieldAddr rfl rfl hu64 rfl (by assumption) rfl) ?_
            refine E.GL.sn rfl rfl (E.ST.store1 rfl z3 o3 rfl rfl cf2 fr2 ?_)
            obtain ⟨RJ, gJ⟩ := st2 (g.f2 + u)
            obtain ⟨wJ2, hwJ2⟩ : ∃ wJ, wJ = World.setCell wJ1 ⟨gR, i * 3 + 2, none⟩ (.int .i64 (g.f2 + u)) := ⟨_, rfl⟩
            rw [← hwJ2] at RJ gJ
            rw [← hwJ2]
            replace b3 := blk_grown b3 gJ (show some g3 ≠ some gR from by have := Kd.R_ne R2 b3 (by decide); rw [eA] at this; exact this)
            replace b7 := blk_grown b7 gJ (show some g7 ≠ some gR from by have := Kd.R_ne R2 b7 (by decide); rw [eA] at this; exact this)
            replace L := E.below_own L hgR gJ
            replace R2 := RJ
            clear RJ gJ
            refine E.GL.done ?_
            refine E.QG.block_normal ?_
            refine E.QG.code ?_
            refine E.CG.list ?_
            refine E.GL.run rfl rfl rfl (E.Runs.move rfl rfl) ?_
            refine E.GL.run rfl rfl rfl (E.Runs.add rfl rfl rfl (IntWalk.i64_in _ (by omega))) ?_
            refine E.GL.run rfl rfl rfl (E.Runs.assign rfl rfl) ?_
            refine E.GL.done ?_
            exact E.QG.round (i + 1) (E.subc rfl (E.subc rfl (E.subc rfl (E.subc rfl (E.subc rfl E.subn))))) ⟨by omega, b3, b7, by rw [upB_step hg]; rw [List.set_set] at R2; exact R2, L⟩ (by omega)
          · refine E.GL.done ?_
            refine E.QG.code ?_
            refine E.CG.cond_f rfl ?_
            refine E.CG.exit ?_
            refine E.QG.pass_exit ?_
            refine E.QG.pass_exit ?_
            refine E.QG.block_here ?_
            refine E.QG.code ?_
            refine E.CG.seq ?_
            refine E.CG.seq ?_
            refine E.CG.list ?_
            obtain rfl : i = M.gs.length := by omega
            rw [upB_all] at R2
            have hlm : M.gs.length = (M.gs.map (sg u)).length := (List.length_map ..).symm
            rw [hlm] at R2 b7
            have hCO : ∀ {W : World}, Kd.R k64 64 W w.heap.size (fun _ => True) (.slice A2 (M.gs.map (sg u)).length c2) (M.gs.map (sg u)) → Kd.C k64 W A2 (br M u).gs.length (br M u).gs := fun R => (Kd.R_reads' R).2.2
            refine E.GL.run rfl rfl rfl (E.Runs.loads (cs := [.int .i64 (M.fl + u), .int .i64 (M.fh + u), .int .i64 M.al, .int .i64 M.ah, .int .i64 (M.nl + u), .int .i64 (M.nh + u), .int .i64 M.ra, .slice A2 (M.gs.map (sg u)).length c2, .int .i64 M.wr]) rfl rfl hu26 rfl info26s (blk_cells b7)) ?_
            by_cases h98 : ¬ far (br M u) ∧ LampOk (br M u)
            · have hgO := ready_few h98.1
              have hck : checkE M = 0 := checkE_yes hV0
              have hck2 : checkE (br M u) = 0 := checkE_yes h98.2
              have q1 := many_sh hV0 h98.2
              have q2 := ask_sh hV0 h98.2 h32
              have q3 := until_sh hV0 h98.2 h32
              have q4 := ask_sh hV0 h98.2 (show inR 0 0 40 by decide)
              refine E.GL.st rfl rfl rfl (E.ST.call rfl ent18 (E.evc rfl E.evn) ((ready_calls (br M u) A2 c2 _ true (iff_of_true rfl h98) (hCO R2)).mono ?_))
              rintro e w98 ⟨rfl, l98⟩
              refine ⟨_, rfl, ?_⟩
              replace b3 := blk_below b3 l98
              replace b7 := blk_below b7 l98
              replace R2 := Kd.R_below R2 l98
              replace L := below_step L l98
              refine E.GL.run rfl rfl rfl (E.Runs.not rfl rfl) ?_
              refine E.GL.done ?_
              refine E.QG.code ?_
              refine E.CG.cond_f rfl ?_
              refine E.CG.skip ?_
              refine E.QG.code ?_
              refine E.CG.seq ?_
              refine E.CG.list ?_
              refine E.GL.run rfl rfl rfl (E.Runs.loads (cs := [.int .i64 M.fl, .int .i64 M.fh, .int .i64 M.al, .int .i64 M.ah, .int .i64 M.nl, .int .i64 M.nh, .int .i64 M.ra, .slice A M.gs.length c, .int .i64 M.wr]) rfl rfl hu26 rfl info26s (blk_cells b3)) ?_
              refine E.GL.st rfl rfl rfl (E.ST.call rfl ent33 (E.evc rfl E.evn) ((many_calls M A c _ (Kd.C_below hr L) hg6).mono ?_))
              rintro e w103 ⟨rfl, l103⟩
              refine ⟨_, rfl, ?_⟩
              replace b3 := blk_below b3 l103
              replace b7 := blk_below b7 l103
              replace R2 := Kd.R_below R2 l103
              replace L := below_step L l103
              refine E.GL.run rfl rfl rfl (E.Runs.move rfl rfl) ?_
              refine E.GL.run rfl rfl rfl (E.Runs.extract rfl rfl rfl) ?_
              refine E.GL.run rfl rfl rfl (E.Runs.extract rfl rfl rfl) ?_
              refine E.GL.run rfl rfl rfl (E.Runs.assign rfl rfl) ?_
              refine E.GL.run rfl rfl rfl (E.Runs.assign rfl rfl) ?_
              refine E.GL.done ?_
              refine E.QG.code ?_
              refine E.CG.seq ?_
              refine E.CG.list ?_
              refine E.GL.run rfl rfl rfl (E.Runs.loads (cs := [.int .i64 (M.fl + u), .int .i64 (M.fh + u), .int .i64 M.al, .int .i64 M.ah, .int .i64 (M.nl + u), .int .i64 (M.nh + u), .int .i64 M.ra, .slice A2 (M.gs.map (sg u)).length c2, .int .i64 M.wr]) rfl rfl hu26 rfl info26s (blk_cells b7)) ?_
              refine E.GL.st rfl rfl rfl (E.ST.call rfl ent33 (E.evc rfl E.evn) ((many_calls (br M u) A2 c2 _ (hCO R2) hgO).mono ?_))
              rintro e w108 ⟨rfl, l108⟩
              refine ⟨_, rfl, ?_⟩
              replace b3 := blk_below b3 l108
              replace b7 := blk_below b7 l108
              replace R2 := Kd.R_below R2 l108
              replace L := below_step L l108
              refine E.GL.run rfl rfl rfl (E.Runs.move rfl rfl) ?_
              refine E.GL.run rfl rfl rfl (E.Runs.extract rfl rfl rfl) ?_
              refine E.GL.run rfl rfl rfl (E.Runs.extract rfl rfl rfl) ?_
              refine E.GL.run rfl rfl rfl (E.Runs.assign rfl rfl) ?_
              refine E.GL.run rfl rfl rfl (E.Runs.assign rfl rfl) ?_
              refine E.GL.done ?_
              refine E.QG.code ?_
              refine E.CG.seq ?_
              refine E.CG.list ?_
              refine E.GL.run rfl rfl rfl (E.Runs.loads (cs := [.int .i64 M.fl, .int .i64 M.fh, .int .i64 M.al, .int .i64 M.ah, .int .i64 M.nl, .int .i64 M.nh, .int .i64 M.ra, .slice A M.gs.length c, .int .i64 M.wr]) rfl rfl hu26 rfl info26s (blk_cells b3)) ?_
              refine E.GL.st rfl rfl rfl (E.ST.call rfl ent34 (E.evc rfl E.evn) ((blame_calls M A c _ (Kd.C_below hr L) hg6).mono ?_))
              rintro e w113 ⟨v113, rfl, R113, l113⟩
              refine ⟨_, rfl, ?_⟩
              replace b3 := blk_below b3 l113
              replace b7 := blk_below b7 l113
              replace R2 := Kd.R_below R2 l113
              replace L := below_step L l113
              have lx := Below.refl w113.heap.size w113
              obtain ⟨A113, c113, hv113⟩ := Kd.R_slice R113
              subst hv113
              obtain ⟨_, _, C113⟩ := Kd.R_reads' R113
              refine E.GL.run rfl rfl rfl (E.Runs.move rfl rfl) ?_
              refine E.GL.run rfl rfl rfl (E.Runs.extract rfl rfl rfl) ?_
              refine E.GL.run rfl rfl rfl (E.Runs.extract rfl rfl rfl) ?_
              refine E.GL.run rfl rfl rfl (E.Runs.assign rfl rfl) ?_
              refine E.GL.run rfl rfl rfl (E.Runs.assign rfl rfl) ?_
              refine E.GL.done ?_
              refine E.QG.code ?_
              refine E.CG.seq ?_
              refine E.CG.list ?_
              refine E.GL.run rfl rfl rfl (E.Runs.loads (cs := [.int .i64 (M.fl + u), .int .i64 (M.fh + u), .int .i64 M.al, .int .i64 M.ah, .int .i64 (M.nl + u), .int .i64 (M.nh + u), .int .i64 M.ra, .slice A2 (M.gs.map (sg u)).length c2, .int .i64 M.wr]) rfl rfl hu26 rfl info26s (blk_cells b7)) ?_
              refine E.GL.st rfl rfl rfl (E.ST.call rfl ent34 (E.evc rfl E.evn) ((blame_calls (br M u) A2 c2 _ (hCO R2) hgO).mono ?_))
              rintro e w118 ⟨v118, rfl, R118, l118⟩
              refine ⟨_, rfl, ?_⟩
              replace b3 := blk_below b3 l118
              replace b7 := blk_below b7 l118
              replace R2 := Kd.R_below R2 l118
              replace L := below_step L l118
              replace lx := below_step lx l118
              have ly := Below.refl w118.heap.size w118
              rw [blame_sh hV0 h98.2] at R118
              obtain ⟨A118, c118, hv118⟩ := Kd.R_slice R118
              subst hv118
              obtain ⟨_, _, C118⟩ := Kd.R_reads' R118
              refine E.GL.run rfl rfl rfl (E.Runs.move rfl rfl) ?_
              refine E.GL.run rfl rfl rfl (E.Runs.extract rfl rfl rfl) ?_
              refine E.GL.run rfl rfl rfl (E.Runs.extract rfl rfl rfl) ?_
              refine E.GL.run rfl rfl rfl (E.Runs.assign rfl rfl) ?_
              refine E.GL.run rfl rfl rfl (E.Runs.assign rfl rfl) ?_
              refine E.GL.done ?_
              refine E.QG.code ?_
              refine E.CG.seq ?_
              refine E.CG.seq ?_
              refine E.CG.list ?_
              refine E.GL.run rfl rfl rfl (E.Runs.move rfl rfl) ?_
              refine E.GL.run rfl rfl rfl (E.Runs.neq rfl rfl rfl (E.ne_f hck)) ?_
              refine E.GL.run rfl rfl rfl (E.Runs.move rfl rfl) ?_
              refine E.GL.run rfl rfl rfl (E.Runs.move rfl rfl) ?_
              refine E.GL.run rfl rfl rfl (E.Runs.neq rfl rfl rfl (E.ne_f hck2)) ?_
              refine E.GL.run rfl rfl rfl (E.Runs.pick_f rfl rfl rfl) ?_
              refine E.GL.run rfl rfl rfl (E.Runs.move rfl rfl) ?_
              refine E.GL.run rfl rfl rfl (E.Runs.move rfl rfl) ?_
              refine E.GL.run rfl rfl rfl (E.Runs.move rfl rfl) ?_
              refine E.GL.run rfl rfl rfl (E.Runs.neq rfl rfl rfl (E.ne_f q1.symm)) ?_
              refine E.GL.run rfl rfl rfl (E.Runs.pick_f rfl rfl rfl) ?_
              refine E.GL.run rfl rfl rfl (E.Runs.move rfl rfl) ?_
              refine E.GL.run rfl rfl rfl (E.Runs.move rfl rfl) ?_
              refine E.GL.run rfl rfl rfl (E.Runs.move rfl rfl) ?_
              refine E.GL.run rfl rfl rfl (E.Runs.neq rfl rfl rfl (E.ne_f q4.symm)) ?_
              refine E.GL.run rfl rfl rfl (E.Runs.pick_f rfl rfl rfl) ?_
              refine E.GL.run rfl rfl rfl (E.Runs.move rfl rfl) ?_
              refine E.GL.run rfl rfl rfl (E.Runs.move rfl rfl) ?_
              refine E.GL.run rfl rfl rfl (E.Runs.move rfl rfl) ?_
              refine E.GL.st rfl rfl rfl (E.ST.call rfl ent17 (E.evc rfl (E.evc rfl E.evn)) ((same_calls (blameV M) (blameV M) A113 A118 c113 c118 _ true (by simp) (Kd.C_below C113 lx) (Kd.C_below C118 ly) (by omega)).mono ?_))
              rintro e w140 ⟨rfl, l140⟩
              refine ⟨_, rfl, ?_⟩
              replace b3 := blk_below b3 l140
              replace b7 := blk_below b7 l140
              replace R2 := Kd.R_below R2 l140
              replace L := below_step L l140
              replace lx := below_step lx l140
              replace ly := below_step ly l140
              refine E.GL.run rfl rfl rfl (E.Runs.not rfl rfl) ?_
              refine E.GL.run rfl rfl rfl (E.Runs.pick_f rfl rfl rfl) ?_
              refine E.GL.done ?_
              refine E.QG.code ?_
              refine E.CG.cond_f rfl ?_
              refine E.CG.skip ?_
              refine E.QG.code ?_
              refine E.CG.seq ?_
              refine E.CG.list ?_
              refine E.GL.run rfl rfl rfl (E.Runs.loads (cs := [.int .i64 M.fl, .int .i64 M.fh, .int .i64 M.al, .int .i64 M.ah, .int .i64 M.nl, .int .i64 M.nh, .int .i64 M.ra, .slice A M.gs.length c, .int .i64 M.wr]) rfl rfl hu26 rfl info26s (blk_cells b3)) ?_
              refine E.GL.run rfl rfl rfl (E.Runs.move rfl rfl) ?_
              refine E.GL.st rfl rfl rfl (E.ST.call rfl ent20 (E.evc rfl (E.evc rfl E.evn)) ((at_calls M A c h _ (Kd.C_below hr L) hg6).mono ?_))
              rintro e w146 ⟨rfl, l146⟩
              refine ⟨_, rfl, ?_⟩
              replace b3 := blk_below b3 l146
              replace b7 := blk_below b7 l146
              replace R2 := Kd.R_below R2 l146
              replace L := below_step L l146
              replace lx := below_step lx l146
              replace ly := below_step ly l146
              refine E.GL.run rfl rfl rfl (E.Runs.move rfl rfl) ?_
              refine E.GL.run rfl rfl rfl (E.Runs.extract rfl rfl rfl) ?_
              refine E.GL.run rfl rfl rfl (E.Runs.extract rfl rfl rfl) ?_
              refine E.GL.st rfl rfl rfl (E.ST.alloc rfl info23z fun g17 w17 e17 b17 l17 => ?_)
              have h17_L : w.heap.size ≤ g17 := by rw [e17]; exact L.size
              have h17_lx : w113.heap.size ≤ g17 := by rw [e17]; exact lx.size
              have h17_ly : w118.heap.size ≤ g17 := by rw [e17]; exact ly.size
              have n17_b3 : g3 ≠ g17 := by have := blk_lt b3; omega
              have n17_b7 : g7 ≠ g17 := by have := blk_lt b7; omega
              have n17_R2 : some g17 ≠ ((Value.slice A2 (M.gs.map (sg u)).length c2)).ownBlock := fun h => by have := Kd.R_lt R2 _ h.symm; omega
              replace b3 := blk_below b3 l17
              replace b7 := blk_below b7 l17
              replace R2 := Kd.R_below R2 l17
              replace L := below_step L l17
              replace lx := below_step lx l17
              replace ly := below_step ly l17
              refine E.GL.store_whole rfl rfl rfl rfl rfl b17 rfl info23s (two_one _ _) fun wS19_7 c17 lS19_7 => ?_
              replace b3 := blk_grown b3 lS19_7 (E.nes (by first | assumption | exact Ne.symm (by assumption)))
              replace b7 := blk_grown b7 lS19_7 (E.nes (by first | assumption | exact Ne.symm (by assumption)))
              replace R2 := Kd.R_grown1 R2 rfl lS19_7 (by first | assumption | exact Kd.R_ne R2 b17 (by decide))
              replace L := E.below_own L h17_L lS19_7
              replace lx := E.below_own lx h17_lx lS19_7
              replace ly := E.below_own ly h17_ly lS19_7
              replace b17 := c17
              clear c17
              refine E.GL.run rfl rfl rfl (E.Runs.assign rfl rfl) ?_
              refine E.GL.done ?_
              refine E.QG.code ?_
              refine E.CG.seq ?_
              refine E.CG.list ?_
              refine E.GL.run rfl rfl rfl (E.Runs.loads (cs := [.int .i64 (M.fl + u), .int .i64 (M.fh + u), .int .i64 M.al, .int .i64 M.ah, .int .i64 (M.nl + u), .int .i64 (M.nh + u), .int .i64 M.ra, .slice A2 (M.gs.map (sg u)).length c2, .int .i64 M.wr]) rfl rfl hu26 rfl info26s (blk_cells b7)) ?_
              refine E.GL.run rfl rfl rfl (E.Runs.move rfl rfl) ?_
              refine E.GL.st rfl rfl rfl (E.ST.call rfl ent20 (E.evc rfl (E.evc rfl E.evn)) ((at_calls (br M u) A2 c2 h _ (hCO R2) hgO).mono ?_))
              rintro e w152 ⟨rfl, l152⟩
              refine ⟨_, rfl, ?_⟩
              replace b3 := blk_below b3 l152
              replace b7 := blk_below b7 l152
              replace b17 := blk_below b17 l152
              replace R2 := Kd.R_below R2 l152
              replace L := below_step L l152
              replace lx := below_step lx l152
              replace ly := below_step ly l152
              refine E.GL.run rfl rfl rfl (E.Runs.move rfl rfl) ?_
              refine E.GL.run rfl rfl rfl (E.Runs.extract rfl rfl rfl) ?_
              refine E.GL.run rfl rfl rfl (E.Runs.extract rfl rfl rfl) ?_
              refine E.GL.st rfl rfl rfl (E.ST.alloc rfl info23z fun g19 w19 e19 b19 l19 => ?_)
              have h19_L : w.heap.size ≤ g19 := by rw [e19]; exact L.size
              have h19_lx : w113.heap.size ≤ g19 := by rw [e19]; exact lx.size
              have h19_ly : w118.heap.size ≤ g19 := by rw [e19]; exact ly.size
              have n19_b3 : g3 ≠ g19 := by have := blk_lt b3; omega
              have n19_b7 : g7 ≠ g19 := by have := blk_lt b7; omega
              have n19_b17 : g17 ≠ g19 := by have := blk_lt b17; omega
              have n19_R2 : some g19 ≠ ((Value.slice A2 (M.gs.map (sg u)).length c2)).ownBlock := fun h => by have := Kd.R_lt R2 _ h.symm; omega
              replace b3 := blk_below b3 l19
              replace b7 := blk_below b7 l19
              replace b17 := blk_below b17 l19
              replace R2 := Kd.R_below R2 l19
              replace L := below_step L l19
              replace lx := below_step lx l19
              replace ly := below_step ly l19
              refine E.GL.store_whole rfl rfl rfl rfl rfl b19 rfl info23s (two_one _ _) fun wS20_7 c19 lS20_7 => ?_
              replace b3 := blk_grown b3 lS20_7 (E.nes (by first | assumption | exact Ne.symm (by assumption)))
              replace b7 := blk_grown b7 lS20_7 (E.nes (by first | assumption | exact Ne.symm (by assumption)))
              replace b17 := blk_grown b17 lS20_7 (E.nes (by first | assumption | exact Ne.symm (by assumption)))
              replace R2 := Kd.R_grown1 R2 rfl lS20_7 (by first | assumption | exact Kd.R_ne R2 b19 (by decide))
              replace L := E.below_own L h19_L lS20_7
              replace lx := E.below_own lx h19_lx lS20_7
              replace ly := E.below_own ly h19_ly lS20_7
              replace b19 := c19
              clear c19
              refine E.GL.run rfl rfl rfl (E.Runs.assign rfl rfl) ?_
              refine E.GL.done ?_
              refine E.QG.code ?_
              refine E.CG.seq ?_
              refine E.CG.list ?_
              refine E.GL.run rfl rfl rfl (E.Runs.loads (cs := [.int .i64 M.fl, .int .i64 M.fh, .int .i64 M.al, .int .i64 M.ah, .int .i64 M.nl, .int .i64 M.nh, .int .i64 M.ra, .slice A M.gs.length c, .int .i64 M.wr]) rfl rfl hu26 rfl info26s (blk_cells b3)) ?_
              refine E.GL.run rfl rfl rfl (E.Runs.move rfl rfl) ?_
              refine E.GL.st rfl rfl rfl (E.ST.call rfl ent21 (E.evc rfl (E.evc rfl E.evn)) ((until_calls M A c h _ (Kd.C_below hr L) hg6).mono ?_))
              rintro e w158 ⟨rfl, l158⟩
              refine ⟨_, rfl, ?_⟩
              replace b3 := blk_below b3 l158
              replace b7 := blk_below b7 l158
              replace b17 := blk_below b17 l158
              replace b19 := blk_below b19 l158
              replace R2 := Kd.R_below R2 l158
              replace L := below_step L l158
              replace lx := below_step lx l158
              replace ly := below_step ly l158
              refine E.GL.run rfl rfl rfl (E.Runs.move rfl rfl) ?_
              refine E.GL.run rfl rfl rfl (E.Runs.extract rfl rfl rfl) ?_
              refine E.GL.run rfl rfl rfl (E.Runs.extract rfl rfl rfl) ?_
              refine E.GL.run rfl rfl rfl (E.Runs.extract rfl rfl rfl) ?_
              refine E.GL.run rfl rfl rfl (E.Runs.assign rfl rfl) ?_
              refine E.GL.run rfl rfl rfl (E.Runs.assign rfl rfl) ?_
              refine E.GL.run rfl rfl rfl (E.Runs.assign rfl rfl) ?_
              refine E.GL.done ?_
              refine E.QG.code ?_
              refine E.CG.seq ?_
              refine E.CG.list ?_
              refine E.GL.run rfl rfl rfl (E.Runs.loads (cs := [.int .i64 (M.fl + u), .int .i64 (M.fh + u), .int .i64 M.al, .int .i64 M.ah, .int .i64 (M.nl + u), .int .i64 (M.nh + u), .int .i64 M.ra, .slice A2 (M.gs.map (sg u)).length c2, .int .i64 M.wr]) rfl rfl hu26 rfl info26s (blk_cells b7)) ?_
              refine E.GL.run rfl rfl rfl (E.Runs.move rfl rfl) ?_
              refine E.GL.st rfl rfl rfl (E.ST.call rfl ent21 (E.evc rfl (E.evc rfl E.evn)) ((until_calls (br M u) A2 c2 h _ (hCO R2) hgO).mono ?_))
              rintro e w165 ⟨rfl, l165⟩
              refine ⟨_, rfl, ?_⟩
              replace b3 := blk_below b3 l165
              replace b7 := blk_below b7 l165
              replace b17 := blk_below b17 l165
              replace b19 := blk_below b19 l165
              replace R2 := Kd.R_below R2 l165
              replace L := below_step L l165
              replace lx := below_step lx l165
              replace ly := below_step ly l165
              refine E.GL.run rfl rfl rfl (E.Runs.move rfl rfl) ?_
              refine E.GL.run rfl rfl rfl (E.Runs.extract rfl rfl rfl) ?_
              refine E.GL.run rfl rfl rfl (E.Runs.extract rfl rfl rfl) ?_
              refine E.GL.run rfl rfl rfl (E.Runs.extract rfl rfl rfl) ?_
              refine E.GL.run rfl rfl rfl (E.Runs.assign rfl rfl) ?_
              refine E.GL.run rfl rfl rfl (E.Runs.assign rfl rfl) ?_
              refine E.GL.run rfl rfl rfl (E.Runs.assign rfl rfl) ?_
              refine E.GL.done ?_
              refine E.QG.code ?_
              refine E.CG.seq ?_
              refine E.CG.seq ?_
              refine E.CG.list ?_
              refine E.GL.run rfl rfl rfl (E.Runs.move rfl rfl) ?_
              refine E.GL.run rfl rfl rfl (E.Runs.move rfl rfl) ?_
              refine E.GL.run rfl rfl rfl (E.Runs.neq rfl rfl rfl (E.ne_f q2.symm)) ?_
              refine E.GL.run rfl rfl rfl (E.Runs.move rfl rfl) ?_
              refine E.GL.run rfl rfl rfl (E.Runs.move rfl rfl) ?_
              refine E.GL.run rfl rfl rfl (E.Runs.move rfl rfl) ?_
              refine E.GL.run rfl rfl rfl (E.Runs.neq rfl rfl rfl (E.ne_f q2.symm)) ?_
              refine E.GL.run rfl rfl rfl (E.Runs.pick_f rfl rfl rfl) ?_
              refine E.GL.run rfl rfl rfl (E.Runs.move rfl rfl) ?_
              refine E.GL.run rfl rfl rfl (E.Runs.move rfl rfl) ?_
              refine E.GL.run rfl rfl rfl (E.Runs.move rfl rfl) ?_
              refine E.GL.run rfl rfl rfl (E.Runs.neq rfl rfl rfl (E.ne_f (by rw [q3]))) ?_
              refine E.GL.run rfl rfl rfl (E.Runs.pick_f rfl rfl rfl) ?_
              refine E.GL.run rfl rfl rfl (E.Runs.move rfl rfl) ?_
              refine E.GL.run rfl rfl rfl (E.Runs.move rfl rfl) ?_
              refine E.GL.run rfl rfl rfl (E.Runs.move rfl rfl) ?_
              refine E.GL.run rfl rfl rfl (E.Runs.neq rfl rfl rfl (E.ne_f (by rw [q3]))) ?_
              refine E.GL.run rfl rfl rfl (E.Runs.pick_f rfl rfl rfl) ?_
              refine E.GL.done ?_
              refine E.QG.code ?_
              refine E.CG.cond_f rfl ?_
              refine E.CG.skip ?_
              refine E.QG.code ?_
              refine E.CG.seq ?_
              refine E.CG.list ?_
              refine E.GL.run rfl rfl rfl (E.Runs.move rfl rfl) ?_
              refine E.GL.cmpn rfl rfl rfl (fun _ h => (E.Runs.neq rfl rfl rfl h)) (fun h188 => ?_) (fun h188 => ?_)
              · refine E.GL.run rfl rfl rfl (E.Runs.move rfl rfl) ?_
                refine E.GL.skip rfl rfl rfl ?_
                refine E.GL.skip rfl rfl rfl ?_
                refine E.GL.skip rfl rfl rfl ?_
                refine E.GL.skip rfl rfl rfl ?_
                refine E.GL.skip rfl rfl rfl ?_
                refine E.GL.skip rfl rfl rfl ?_
                refine E.GL.skip rfl rfl rfl ?_
                refine E.GL.skip rfl rfl rfl ?_
                refine E.GL.skip rfl rfl rfl ?_
                refine E.GL.skip rfl rfl rfl ?_
                refine E.GL.skip rfl rfl rfl ?_
                refine E.GL.run rfl rfl rfl (E.Runs.pick_t rfl rfl rfl) ?_
                refine E.GL.run rfl rfl rfl (E.Runs.move rfl rfl) ?_
                refine E.GL.st rfl rfl rfl (E.ST.call rfl ent13 E.evn ((works_calls _).mono ?_))
                rintro e w203 ⟨rfl, l203⟩
                refine ⟨_, rfl, ?_⟩
                replace b3 := blk_below b3 l203
                replace b7 := blk_below b7 l203
                replace b17 := blk_below b17 l203
                replace b19 := blk_below b19 l203
                replace R2 := Kd.R_below R2 l203
                replace L := below_step L l203
                replace lx := below_step lx l203
                replace ly := below_step ly l203
                refine E.GL.run rfl rfl rfl (E.Runs.pick_t rfl rfl rfl) ?_
                refine E.GL.run rfl rfl rfl (E.Runs.assign rfl rfl) ?_
                refine E.GL.done ?_
                refine E.QG.code ?_
                refine E.CG.ret ?_
                exact E.QG.result rfl rfl ⟨rfl, L⟩
              · have hab := at_b h32 h188
                obtain ⟨q5, q6⟩ := at_sh hV0 h98.2 h32 h188
                refine E.GL.run rfl rfl rfl (E.Runs.move rfl rfl) ?_
                refine E.GL.run rfl rfl rfl (E.Runs.loads (cs := [.int .i64 (atV (br M u) h).1, .int .i64 (atV (br M u) h).2]) rfl rfl hu23 rfl info23s (blk_cells b19)) ?_
                refine E.GL.run rfl rfl rfl (E.Runs.fieldAddr rfl rfl hu23 rfl (by assumption) rfl) ?_
                refine E.GL.run rfl rfl rfl (E.Runs.load rfl rfl hu3 (by first | assumption | exact E.blkc (by assumption) rfl | exact pw_cell_below L (by assumption) | exact pw_cell_below lx (by assumption) | exact pw_cell_below ly (by assumption))) ?_
                refine E.GL.run rfl rfl rfl (E.Runs.move rfl rfl) ?_
                refine E.GL.run rfl rfl rfl (E.Runs.add rfl rfl rfl (IntWalk.i64_in _ (by omega))) ?_
                refine E.GL.run rfl rfl rfl (E.Runs.fieldAddr rfl rfl hu23 rfl (by assumption) rfl) ?_
                refine E.GL.run rfl rfl rfl (E.Runs.load rfl rfl hu3 (by first | assumption | exact E.blkc (by assumption) rfl | exact pw_cell_below L (by assumption) | exact pw_cell_below lx (by assumption) | exact pw_cell_below ly (by assumption))) ?_
                refine E.GL.run rfl rfl rfl (E.Runs.move rfl rfl) ?_
                refine E.GL.run rfl rfl rfl (E.Runs.add rfl rfl rfl (IntWalk.i64_in _ (by omega))) ?_
                refine E.GL.run rfl rfl rfl (E.Runs.build rfl (E.epc rfl (E.epc rfl E.epn)) (build23 _ _)) ?_
                refine E.GL.run rfl rfl rfl (E.Runs.eqlv rfl rfl rfl rfl (fun _ _ W => run_eqGuard_agg W _ _ _ _ _ _ Try.eqGuardType23) (by rw [q5, q6]; exact equal23 _ _)) ?_
                refine E.GL.run rfl rfl rfl (E.Runs.pick_f rfl rfl rfl) ?_
                refine E.GL.run rfl rfl rfl (E.Runs.move rfl rfl) ?_
                refine E.GL.st rfl rfl rfl (E.ST.call rfl ent13 E.evn ((works_calls _).mono ?_))
                rintro e w203 ⟨rfl, l203⟩
                refine ⟨_, rfl, ?_⟩
                replace b3 := blk_below b3 l203
                replace b7 := blk_below b7 l203
                replace b17 := blk_below b17 l203
                replace b19 := blk_below b19 l203
                replace R2 := Kd.R_below R2 l203
                replace L := below_step L l203
                replace lx := below_step lx l203
                replace ly := below_step ly l203
                refine E.GL.run rfl rfl rfl (E.Runs.pick_t rfl rfl rfl) ?_
                refine E.GL.run rfl rfl rfl (E.Runs.assign rfl rfl) ?_
                refine E.GL.done ?_
                refine E.QG.code ?_
                refine E.CG.ret ?_
                exact E.QG.result rfl rfl ⟨rfl, L⟩
            · refine E.GL.st rfl rfl rfl (E.ST.call rfl ent18 (E.evc rfl E.evn) ((ready_calls (br M u) A2 c2 _ false (iff_of_false Bool.false_ne_true h98) (hCO R2)).mono ?_))
              rintro e w98 ⟨rfl, l98⟩
              refine ⟨_, rfl, ?_⟩
              replace b3 := blk_below b3 l98
              replace b7 := blk_below b7 l98
              replace R2 := Kd.R_below R2 l98
              replace L := below_step L l98
              refine E.GL.run rfl rfl rfl (E.Runs.not rfl rfl) ?_
              refine E.GL.done ?_
              refine E.QG.code ?_
              refine E.CG.cond_t rfl ?_
              refine E.CG.seq ?_
              refine E.CG.list ?_
              refine E.GL.st rfl rfl rfl (E.ST.call rfl ent13 E.evn ((works_calls _).mono ?_))
              rintro e w100 ⟨rfl, l100⟩
              refine ⟨_, rfl, ?_⟩
              replace b3 := blk_below b3 l100
              replace b7 := blk_below b7 l100
              replace R2 := Kd.R_below R2 l100
              replace L := below_step L l100
              refine E.GL.run rfl rfl rfl (E.Runs.assign rfl rfl) ?_
              refine E.GL.done ?_
              refine E.QG.code ?_
              refine E.CG.ret ?_
              refine E.QG.pass_ret ?_
              exact E.QG.result rfl rfl ⟨rfl, L⟩
    · refine E.GL.st rfl rfl rfl (E.ST.call rfl ent19 (E.evc rfl E.evn) ((ishour_calls h _ false (iff_of_false Bool.false_ne_true h32)).mono ?_))
      rintro e w32 ⟨rfl, l32⟩
      refine ⟨_, rfl, ?_⟩
      replace b3 := blk_below b3 l32
      replace L := below_step L l32
      refine E.GL.run rfl rfl rfl (E.Runs.not rfl rfl) ?_
      refine E.GL.run rfl rfl rfl (E.Runs.pick_f rfl rfl rfl) ?_
      refine E.GL.run rfl rfl rfl (E.Runs.move rfl rfl) ?_
      refine E.GL.skip rfl rfl rfl ?_
      refine E.GL.skip rfl rfl rfl ?_
      refine E.GL.run rfl rfl rfl (E.Runs.pick_t rfl rfl rfl) ?_
      refine E.GL.run rfl rfl rfl (E.Runs.move rfl rfl) ?_
      refine E.GL.skip rfl rfl rfl ?_
      refine E.GL.skip rfl rfl rfl ?_
      refine E.GL.run rfl rfl rfl (E.Runs.pick_t rfl rfl rfl) ?_
      refine E.GL.done ?_
      refine E.QG.code ?_
      refine E.CG.cond_t rfl ?_
      refine E.CG.seq ?_
      refine E.CG.list ?_
      refine E.GL.st rfl rfl rfl (E.ST.call rfl ent13 E.evn ((works_calls _).mono ?_))
      rintro e w43 ⟨rfl, l43⟩
      refine ⟨_, rfl, ?_⟩
      replace b3 := blk_below b3 l43
      replace L := below_step L l43
      refine E.GL.run rfl rfl rfl (E.Runs.assign rfl rfl) ?_
      refine E.GL.done ?_
      refine E.QG.code ?_
      refine E.CG.ret ?_
      refine E.QG.pass_ret ?_
      exact E.QG.result rfl rfl ⟨rfl, L⟩
  · refine E.GL.st rfl rfl rfl (E.ST.call rfl ent18 (E.evc rfl E.evn) ((ready_calls M A c _ false (iff_of_false Bool.false_ne_true h28) (Kd.C_below hr L)).mono ?_))
    rintro e w28 ⟨rfl, l28⟩
    refine ⟨_, rfl, ?_⟩
    replace b3 := blk_below b3 l28
    replace L := below_step L l28
    refine E.GL.run rfl rfl rfl (E.Runs.not rfl rfl) ?_
    refine E.GL.run rfl rfl rfl (E.Runs.move rfl rfl) ?_
    refine E.GL.skip rfl rfl rfl ?_
    refine E.GL.skip rfl rfl rfl ?_
    refine E.GL.skip rfl rfl rfl ?_
    refine E.GL.run rfl rfl rfl (E.Runs.pick_t rfl rfl rfl) ?_
    refine E.GL.run rfl rfl rfl (E.Runs.move rfl rfl) ?_
    refine E.GL.skip rfl rfl rfl ?_
    refine E.GL.skip rfl rfl rfl ?_
    refine E.GL.run rfl rfl rfl (E.Runs.pick_t rfl rfl rfl) ?_
    refine E.GL.run rfl rfl rfl (E.Runs.move rfl rfl) ?_
    refine E.GL.skip rfl rfl rfl ?_
    refine E.GL.skip rfl rfl rfl ?_
    refine E.GL.run rfl rfl rfl (E.Runs.pick_t rfl rfl rfl) ?_
    refine E.GL.done ?_
    refine E.QG.code ?_
    refine E.CG.cond_t rfl ?_
    refine E.CG.seq ?_
    refine E.CG.list ?_
    refine E.GL.st rfl rfl rfl (E.ST.call rfl ent13 E.evn ((works_calls _).mono ?_))
    rintro e w43 ⟨rfl, l43⟩
    refine ⟨_, rfl, ?_⟩
    replace b3 := blk_below b3 l43
    replace L := below_step L l43
    refine E.GL.run rfl rfl rfl (E.Runs.assign rfl rfl) ?_
    refine E.GL.done ?_
    refine E.QG.code ?_
    refine E.CG.ret ?_
    refine E.QG.pass_ret ?_
    exact E.QG.result rfl rfl ⟨rfl, L⟩

end Go.Proofs.Ytbajpjnloikpdaa.T
