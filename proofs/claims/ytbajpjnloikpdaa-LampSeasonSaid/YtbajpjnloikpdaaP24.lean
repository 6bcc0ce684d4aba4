/- LampSeason: the walk of the law. -/
import Derived.Test.YtbajpjnloikpdaaP23
namespace Go.Proofs.Ytbajpjnloikpdaa.T
open Go.RowKit Go.Proofs.YtbajpjnloikpdaaW.PrintWords Go.Proofs.YtbajpjnloikpdaaW.PrintMore
open Go.Proofs.Ytbajpjnloikpdaa.P
set_option linter.unusedVariables false
set_option linter.unusedSimpArgs false

theorem season_elem {M : Lm} {b : Int} {l : List Int} (hE : daysE M b l = 0) (hq : chgR M b l = some (chgL M b l)) {i : Nat} {y : Int} (hy : (chgL M b l)[i]? = some y) : 0 ≤ y ∧ y ≤ 100 := by
  unfold chgR at hq
  refine ⟨chg_ge hq y (List.mem_of_getElem? hy), ?_⟩
  have hle : ∀ (r : List Int) (S : List Ln → Int → Int → Prop) (f t : List Ln) (b d : Int) (o : List Int), chg S f t b r d = some o → ∀ z ∈ o, z ≤ d + r.length := by
    intro r
    induction r with
    | nil => intro S f t b d o h z hz; simp only [chg, Option.some.injEq] at h; subst h; cases hz
    | cons x r ih =>
      intro S f t b d o h z hz
      rw [chg_cons] at h
      simp only [List.length_cons]
      split at h
      · cases h
      · split at h
        · have := ih _ _ _ _ _ _ h z hz
          omega
        · rw [Option.map_eq_some_iff] at h
          obtain ⟨o', h1, rfl⟩ := h
          rcases List.mem_cons.mp hz with rfl | hz
          · omega
          · have := ih _ _ _ _ _ _ h1 z hz
            omega
  have := hle _ _ _ _ _ _ _ hq y (List.mem_of_getElem? hy)
  have := (daysE_ok hE).2.2.1
  omega

theorem rowI_at {W : World} {base : Nat} {A : Option Addr} {n c : Nat} {xs : List Int} {i : Nat} {s : Int} (R : Kd.R kI 3 W base (fun _ => True) (.slice A n c) xs) (hs : xs[i]? = some s) :
    ∃ g, A = some ⟨g, 0, none⟩ ∧ base ≤ g ∧ W.cell? ⟨g, i * 1, none⟩ = some (.int .i64 s) ∧ W.frozen? ⟨g, i * 1, none⟩ = false ∧
      (∀ t : Int, Kd.R kI 3 (W.setCell ⟨g, i * 1, none⟩ (.int .i64 t)) base (fun _ => True) (.slice A n c) (xs.set i t) ∧ W.grownBy (W.setCell ⟨g, i * 1, none⟩ (.int .i64 t)) (some g)) := by
  have hil : i < xs.length := (List.getElem?_eq_some_iff.1 hs).1
  obtain ⟨g, cap, hv, hb, hl, cells, hc⟩ := Kd.R_form R (by omega)
  have hn := (Kd.R_reads' R).1
  injection hv with hA hn' hc'
  subst hA hc'
  obtain ⟨cs, h1, h2, h3, h4⟩ := Kd.R_elem R 0 (i : Int) (by omega) (by omega)
  have hx : xs.getD i 0 = s := by simp [List.getD_eq_getElem?_getD, hs]
  rw [Int.toNat_natCast, hx] at h2
  obtain rfl : cs = [.int .i64 s] := h2
  rw [Int.toNat_natCast] at h3 h4
  refine ⟨g, rfl, hb, h3 0 _ rfl, h4 0, fun t => ?_⟩
  have := Kd.R_seg R (i : Int) (by omega) (by omega) (seg := [.int .i64 t]) (j := 0) h1 (by rw [Int.toNat_natCast]; exact h3) (by show 0 + 1 ≤ 1; decide) (x' := t) (okp := fun _ => False) (show kI.M _ _ _ t ([.int .i64 t] : List Value) from rfl) (fun _ hk => hk.elim)
  rw [Int.toNat_natCast] at this
  exact this
theorem season_ok {M : Lm} {b : Int} {l : List Int} (hE : daysE M b l = 0) (h3 : ¬ chgE M b l = 3) : chgE M b l = 0 ∧ chgR M b l = some (chgL M b l) := by
  cases hq : chgR M b l with
  | none => exact absurd (chg_none hE hq).1 h3
  | some o =>
    obtain ⟨h1, h2⟩ := chg_some hE hq
    exact ⟨h1, by rw [h2]⟩
theorem season_no {M : Lm} {b : Int} {l : List Int} (hE : daysE M b l = 0) (hV : LampOk M) (h3 : chgE M b l = 3) : chgL M b l = [] ∧ ∃ x ∈ l, ¬ showT M.nl M.nh M.ra (pairs M) 0 x := by
  cases hq : chgR M b l with
  | some o =>
    have := (chg_some hE hq).1
    omega
  | none =>
    refine ⟨(chg_none hE hq).2, ?_⟩
    unfold chgR at hq
    rw [fr_truths hV.1.2.2.2.2.2.1] at hq
    exact chg_none_bad hq
theorem season_plain {M : Lm} {b : Int} {l : List Int} (hE : daysE M b l = 0) (hV : LampOk M) (hq : chgR M b l = some (chgL M b l)) :
    shw (showT M.nl M.nh M.ra) (pairs M) (truths M) b l 0 (chgL M b l) ∧ (∀ k, shw (showT M.nl M.nh M.ra) (pairs M) (truths M) b l 0 k → (chgL M b l).length ≤ k.length) ∧ (∀ (i : Nat) (y : Int), (chgL M b l)[i]? = some y → ¬ shw (showT M.nl M.nh M.ra) (pairs M) (truths M) b l 0 ((chgL M b l).set i (y + 1))) := by
  obtain ⟨_, hb, _, hd⟩ := daysE_ok hE
  unfold chgR at hq
  rw [fr_truths hV.1.2.2.2.2.2.1] at hq
  refine ⟨chg_shows hq, fun k hk => ?_, fun i y hy => chg_later hq i y hy⟩
  exact (chg_least (show_mono (fun x hx => pairs_ok hV.1 hx)) l (fun x hx => (hd x hx).1) 0 _ k (truths M) b 0 (Int.le_refl 0)).1 hq hk
theorem bad_no {S : Int → Prop} {l : List Int} {n : Nat} (h : ∃ x ∈ l, ¬ S x) (hk : ∀ j, j < n → ∀ x, l[j]? = some x → S x) (hn : l.length ≤ n) : False := by
  obtain ⟨x, hx, k⟩ := h
  obtain ⟨j, hj⟩ := List.mem_iff_getElem?.mp hx
  exact k (hk j (by have := (List.getElem?_eq_some_iff.1 hj).1; omega) x hj)
theorem show_more {S : Int → Prop} {l : List Int} {n : Nat} {x : Int} (h : ∀ j, j < n → ∀ x, l[j]? = some x → S x) (hx : l[n]? = some x) (k : S x) : ∀ j, j < n + 1 → ∀ x, l[j]? = some x → S x := by
  intro j hj y hy
  by_cases e : j = n
  · subst e
    rw [hx] at hy
    cases hy
    exact k
  · exact h j (by omega) y hy
theorem shown_any (M : Lm) (A Ad Ac Ak : Option Addr) (c cd nc cc ck nk : Nat) (b : Int) (l k : List Int) (w : World) (r : Bool) (hb : r = true ↔ shw (showT M.nl M.nh M.ra) (pairs M) (truths M) b l 0 k) (hV : LampOk M) (hB : inR b 0 40) (hD : DaysOk l) (hr : Kd.C k64 w A M.gs.length M.gs) (hd : Kd.C kI w Ad l.length l) (e : nk = k.length) (hk : Kd.C kI w Ak k.length k) (hn : l.length ≤ 1000000) (hn2 : k.length ≤ 1000000) :
    Calls Try.prog 25 #[lv M A c, .agg #[.int .i64 b, .slice Ad l.length cd, .slice Ac nc cc], .slice Ak nk ck] w fun e w' => e = .returned (.bool r) ∧ Below w.heap.size w w' := by
  subst e
  exact shown_calls M A Ad Ac Ak c cd nc cc ck b l k w r hb hV hB hD hr hd hk hn hn2
set_option maxRecDepth 100000 in
set_option maxHeartbeats 8000000 in

theorem season_law (M : Lm) (A Ad Ax : Option Addr) (c cd cx : Nat) (b : Int) (l k : List Int) (w : World) (hr : Kd.C k64 w A M.gs.length M.gs) (hd : Kd.C kI w Ad l.length l) (hk : Kd.C kI w Ax k.length k) :
    Calls Try.prog 5 #[lv M A c, .agg #[.int .i64 b, .slice Ad l.length cd, .slice Ax k.length cx]] w fun e w' => e = .returned (.bool true) ∧ Below w.heap.size w w' := by
  have hu3 := Try.underlying3
  have hu26 := Try.underlying26
  have hu27 := Try.underlying27
  have hu43 := Try.underlying43
  have hu46 := Try.underlying46
  obtain ⟨z3, o3⟩ := info_some info3s (by decide)
  obtain ⟨z27, o27⟩ := info_some info27s (by decide)
  have hlm := Kd.C_max hd
  have hkm := Kd.C_max hk
  refine E.enter (N := 150) Try.func5 rfl Try.ntmps5 (args := [lv M A c, .agg #[.int .i64 b, .slice Ad l.length cd, .slice Ax k.length cx]]) (by simp) ?_
  have L := Below.refl w.heap.size w
  refine E.CG.seq ?_
  refine E.CG.list ?_
  refine E.GL.st rfl rfl rfl (E.ST.box rfl rfl fun g2 w2 e2 b2 l2 => ?_)
  have h2_L : w.heap.size ≤ g2 := by rw [e2]; exact L.size
  replace L := below_step L l2
  refine E.GL.st rfl rfl rfl (E.ST.box rfl rfl fun g3 w3 e3 b3 l3 => ?_)
  have h3_L : w.heap.size ≤ g3 := by rw [e3]; exact L.size
  have n3_b2 : g2 ≠ g3 := by have := blk_lt b2; omega
  replace b2 := blk_below b2 l3
  replace L := below_step L l3
  refine E.GL.run rfl rfl rfl (E.Runs.assign rfl rfl) ?_
  refine E.GL.done ?_
  refine E.QG.code ?_
  refine E.CG.seq ?_
  refine E.CG.seq ?_
  refine E.CG.list ?_
  refine E.GL.run rfl rfl rfl (E.Runs.loads (cs := [.int .i64 M.fl, .int .i64 M.fh, .int .i64 M.al, .int .i64 M.ah, .int .i64 M.nl, .int .i64 M.nh, .int .i64 M.ra, .slice A M.gs.length c, .int .i64 M.wr]) rfl rfl hu26 rfl info26s (blk_cells b2)) ?_
  by_cases h11 : ¬ far M ∧ LampOk M
  · have hg6 := ready_few h11.1
    have hV0 := h11.2
    have hra : M.ra ≤ 40 := hV0.1.2.2.2.1.2
    refine E.GL.st rfl rfl rfl (E.ST.call rfl ent18 (E.evc rfl E.evn) ((ready_calls M A c _ true (iff_of_true rfl h11) (Kd.C_below hr L)).mono ?_))
    rintro e w11 ⟨rfl, l11⟩
    refine ⟨_, rfl, ?_⟩
    replace b2 := blk_below b2 l11
    replace b3 := blk_below b3 l11
    replace L := below_step L l11
    refine E.GL.run rfl rfl rfl (E.Runs.not rfl rfl) ?_
    refine E.GL.run rfl rfl rfl (E.Runs.move rfl rfl) ?_
    refine E.GL.run rfl rfl rfl (E.Runs.loads (cs := [.int .i64 M.fl, .int .i64 M.fh, .int .i64 M.al, .int .i64 M.ah, .int .i64 M.nl, .int .i64 M.nh, .int .i64 M.ra, .slice A M.gs.length c, .int .i64 M.wr]) rfl rfl hu26 rfl info26s (blk_cells b2)) ?_
    refine E.GL.run rfl rfl rfl (E.Runs.fieldAddr rfl rfl hu43 rfl (by assumption) rfl) ?_
    refine E.GL.run rfl rfl rfl (E.Runs.load rfl rfl hu3 (by first | assumption | exact E.blkc (by assumption) rfl | exact pw_cell_below L (by assumption))) ?_
    refine E.GL.run rfl rfl rfl (E.Runs.fieldAddr rfl rfl hu43 rfl (by assumption) rfl) ?_
    refine E.GL.run rfl rfl rfl (E.Runs.load1 rfl rfl hu27 rfl (by first | assumption | exact E.blkc (by assumption) rfl | exact pw_cell_below L (by assumption))) ?_
    refine E.GL.st rfl rfl rfl (E.ST.call rfl ent22 (E.evc rfl (E.evc rfl (E.evc rfl E.evn))) ((checkdays_calls M A Ad c cd b l _ (Kd.C_below hr L) hg6 (Kd.C_below hd L)).mono ?_))
    rintro e w19 ⟨rfl, l19⟩
    refine ⟨_, rfl, ?_⟩
    replace b2 := blk_below b2 l19
    replace b3 := blk_below b3 l19
    replace L := below_step L l19
    refine E.GL.cmpn rfl rfl rfl (fun _ h => (E.Runs.neq rfl rfl rfl h)) (fun h20 => ?_) (fun h20 => ?_)
    · refine E.GL.run rfl rfl rfl (E.Runs.pick_f rfl rfl rfl) ?_
      refine E.GL.run rfl rfl rfl (E.Runs.move rfl rfl) ?_
      refine E.GL.skip rfl rfl rfl ?_
      refine E.GL.skip rfl rfl rfl ?_
      refine E.GL.skip rfl rfl rfl ?_
      refine E.GL.skip rfl rfl rfl ?_
      refine E.GL.run rfl rfl rfl (E.Runs.pick_t rfl rfl rfl) ?_
      refine E.GL.run rfl rfl rfl (E.Runs.move rfl rfl) ?_
      refine E.GL.skip rfl rfl rfl ?_
      refine E.GL.skip rfl rfl rfl ?_
      refine E.GL.skip rfl rfl rfl ?_
      refine E.GL.skip rfl rfl rfl ?_
      refine E.GL.run rfl rfl rfl (E.Runs.pick_t rfl rfl rfl) ?_
      refine E.GL.done ?_
      refine E.QG.code ?_
      refine E.CG.cond_t rfl ?_
      refine E.CG.seq ?_
      refine E.CG.list ?_
      refine E.GL.st rfl rfl rfl (E.ST.call rfl ent13 E.evn ((works_calls _).mono ?_))
      rintro e w34 ⟨rfl, l34⟩
      refine ⟨_, rfl, ?_⟩
      replace b2 := blk_below b2 l34
      replace b3 := blk_below b3 l34
      replace L := below_step L l34
      refine E.GL.run rfl rfl rfl (E.Runs.assign rfl rfl) ?_
      refine E.GL.done ?_
      refine E.QG.code ?_
      refine E.CG.ret ?_
      refine E.QG.pass_ret ?_
      first | exact E.QG.result rfl rfl ⟨rfl, L⟩ | exact absurd habs id | fail
    · have hE : daysE M b l = 0 := by omega
      obtain ⟨_, hdb, hdl, hdd⟩ := daysE_ok hE
      refine E.GL.run rfl rfl rfl (E.Runs.pick_f rfl rfl rfl) ?_
      refine E.GL.run rfl rfl rfl (E.Runs.move rfl rfl) ?_
      refine E.GL.run rfl rfl rfl (E.Runs.fieldAddr rfl rfl hu43 rfl (by assumption) rfl) ?_
      refine E.GL.run rfl rfl rfl (E.Runs.load1 rfl rfl hu27 rfl (by first | assumption | exact E.blkc (by assumption) rfl | exact pw_cell_below L (by assumption))) ?_
      refine E.GL.run rfl rfl rfl (E.Runs.len rfl rfl hu27) ?_
      refine E.GL.cmp rfl rfl rfl (fun _ h => (E.Runs.gtr rfl rfl rfl h)) (fun h26 => ?_) (fun h26 => ?_)
      · refine E.GL.run rfl rfl rfl (E.Runs.pick_f rfl rfl rfl) ?_
        refine E.GL.run rfl rfl rfl (E.Runs.move rfl rfl) ?_
        refine E.GL.skip rfl rfl rfl ?_
        refine E.GL.skip rfl rfl rfl ?_
        refine E.GL.skip rfl rfl rfl ?_
        refine E.GL.skip rfl rfl rfl ?_
        refine E.GL.run rfl rfl rfl (E.Runs.pick_t rfl rfl rfl) ?_
        refine E.GL.done ?_
        refine E.QG.code ?_
        refine E.CG.cond_t rfl ?_
        refine E.CG.seq ?_
        refine E.CG.list ?_
        refine E.GL.st rfl rfl rfl (E.ST.call rfl ent13 E.evn ((works_calls _).mono ?_))
        rintro e w34 ⟨rfl, l34⟩
        refine ⟨_, rfl, ?_⟩
        replace b2 := blk_below b2 l34
        replace b3 := blk_below b3 l34
        replace L := below_step L l34
        refine E.GL.run rfl rfl rfl (E.Runs.assign rfl rfl) ?_
        refine E.GL.done ?_
        refine E.QG.code ?_
        refine E.CG.ret ?_
        refine E.QG.pass_ret ?_
        first | exact E.QG.result rfl rfl ⟨rfl, L⟩ | exact absurd habs id | fail
      · refine E.GL.run rfl rfl rfl (E.Runs.pick_f rfl rfl rfl) ?_
        refine E.GL.run rfl rfl rfl (E.Runs.move rfl rfl) ?_
        refine E.GL.run rfl rfl rfl (E.Runs.fieldAddr rfl rfl hu43 rfl (by assumption) rfl) ?_
        refine E.GL.run rfl rfl rfl (E.Runs.load1 rfl rfl hu27 rfl (by first | assumption | exact E.blkc (by assumption) rfl | exact pw_cell_below L (by assumption))) ?_
        refine E.GL.run rfl rfl rfl (E.Runs.len rfl rfl hu27) ?_
        refine E.GL.cmp rfl rfl rfl (fun _ h => (E.Runs.gtr rfl rfl rfl h)) (fun h32 => ?_) (fun h32 => ?_)
        · refine E.GL.run rfl rfl rfl (E.Runs.pick_f rfl rfl rfl) ?_
          refine E.GL.done ?_
          refine E.QG.code ?_
          refine E.CG.cond_t rfl ?_
          refine E.CG.seq ?_
          refine E.CG.list ?_
          refine E.GL.st rfl rfl rfl (E.ST.call rfl ent13 E.evn ((works_calls _).mono ?_))
          rintro e w34 ⟨rfl, l34⟩
          refine ⟨_, rfl, ?_⟩
          replace b2 := blk_below b2 l34
          replace b3 := blk_below b3 l34
          replace L := below_step L l34
          refine E.GL.run rfl rfl rfl (E.Runs.assign rfl rfl) ?_
          refine E.GL.done ?_
          refine E.QG.code ?_
          refine E.CG.ret ?_
          refine E.QG.pass_ret ?_
          first | exact E.QG.result rfl rfl ⟨rfl, L⟩ | exact absurd habs id | fail
        · have hk20 : k.length ≤ 20 := by omega
          have hcl := chgL_few M b l
          refine E.GL.run rfl rfl rfl (E.Runs.pick_f rfl rfl rfl) ?_
          refine E.GL.done ?_
          refine E.QG.code ?_
          refine E.CG.cond_f rfl ?_
          refine E.CG.skip ?_
          refine E.QG.code ?_
          refine E.CG.seq ?_
          refine E.CG.list ?_
          refine E.GL.run rfl rfl rfl (E.Runs.loads (cs := [.int .i64 M.fl, .int .i64 M.fh, .int .i64 M.al, .int .i64 M.ah, .int .i64 M.nl, .int .i64 M.nh, .int .i64 M.ra, .slice A M.gs.length c, .int .i64 M.wr]) rfl rfl hu26 rfl info26s (blk_cells b2)) ?_
          refine E.GL.run rfl rfl rfl (E.Runs.fieldAddr rfl rfl hu43 rfl (by assumption) rfl) ?_
          refine E.GL.run rfl rfl rfl (E.Runs.load rfl rfl hu3 (by first | assumption | exact E.blkc (by assumption) rfl | exact pw_cell_below L (by assumption))) ?_
          refine E.GL.run rfl rfl rfl (E.Runs.fieldAddr rfl rfl hu43 rfl (by assumption) rfl) ?_
          refine E.GL.run rfl rfl rfl (E.Runs.load1 rfl rfl hu27 rfl (by first | assumption | exact E.blkc (by assumption) rfl | exact pw_cell_below L (by assumption))) ?_
          refine E.GL.st rfl rfl rfl (E.ST.call rfl ent14 (E.evc rfl (E.evc rfl (E.evc rfl E.evn))) ((changes_calls M A Ad c cd b l _ (Kd.C_below hr L) hg6 (Kd.C_below hd L) (by omega)).mono ?_))
          rintro e w41 ⟨v41, rfl, R41, l41⟩
          refine ⟨_, rfl, ?_⟩
          replace b2 := blk_below b2 l41
          replace b3 := blk_below b3 l41
          replace L := below_step L l41
          have lx := Below.refl w41.heap.size w41
          obtain ⟨A41, c41, hv41⟩ := Kd.R_slice R41
          subst hv41
          obtain ⟨_, _, C41⟩ := Kd.R_reads' R41
          refine E.GL.run rfl rfl rfl (E.Runs.move rfl rfl) ?_
          refine E.GL.run rfl rfl rfl (E.Runs.extract rfl rfl rfl) ?_
          refine E.GL.run rfl rfl rfl (E.Runs.extract rfl rfl rfl) ?_
          refine E.GL.run rfl rfl rfl (E.Runs.assign rfl rfl) ?_
          refine E.GL.run rfl rfl rfl (E.Runs.assign rfl rfl) ?_
          refine E.GL.done ?_
          refine E.QG.code ?_
          refine E.CG.seq ?_
          refine E.CG.seq ?_
          refine E.CG.list ?_
          refine E.GL.run rfl rfl rfl (E.Runs.move rfl rfl) ?_
          refine E.GL.cmp rfl rfl rfl (fun _ h => (E.Runs.eql rfl rfl rfl h)) (fun h45 => ?_) (fun h45 => ?_)
          · obtain ⟨hc0, hbad⟩ := season_no hE hV0 h45
            have hc0l : (chgL M b l).length = 0 := by rw [hc0]; rfl
            refine E.GL.done ?_
            refine E.QG.code ?_
            refine E.CG.cond_t rfl ?_
            refine E.CG.seq ?_
            refine E.CG.seq ?_
            refine E.CG.list ?_
            refine E.GL.run rfl rfl rfl (E.Runs.assign rfl rfl) ?_
            refine E.GL.done ?_
            refine E.QG.code ?_
            refine E.CG.block ?_
            have s6_b2 := b2
            have s6_b3 := b3
            have s6_L := L
            have s6_lx := lx
            refine E.CG.loop (fun (i : Nat) => [(2, .pointer (some ⟨g2, 0, none⟩)), (3, .pointer (some ⟨g3, 0, none⟩)), (5, .slice A41 (chgL M b l).length c41), (7, .int .i64 i)]) (fun i w' => i ≤ l.length ∧ Below w41.heap.size w41 w' ∧ ∀ j, j < i → ∀ x, l[j]? = some x → (showT M.nl M.nh M.ra) (pairs M) 0 x) (fun i => l.length - i) 0 (E.subc rfl (E.subc rfl (E.subc rfl (E.subc rfl E.subn)))) ⟨Nat.zero_le _, Below.refl _ _, fun j hj => by omega⟩ ?_
            rintro i w6 ⟨hi, lq, hok⟩
            replace b2 := blk_below b2 lq
            replace b3 := blk_below b3 lq
            replace L := below_step L lq
            replace lx := below_step lx lq
            refine E.CG.seq ?_
            refine E.CG.seq ?_
            refine E.CG.list ?_
            refine E.GL.run rfl rfl rfl (E.Runs.move rfl rfl) ?_
            refine E.GL.run rfl rfl rfl (E.Runs.fieldAddr rfl rfl hu43 rfl (by assumption) rfl) ?_
            refine E.GL.run rfl rfl rfl (E.Runs.load1 rfl rfl hu27 rfl (by first | assumption | exact E.blkc (by assumption) rfl | exact pw_cell_below L (by assumption) | exact pw_cell_below lx (by assumption) | exact pw_cell_below lq (by assumption))) ?_
            refine E.GL.run rfl rfl rfl (E.Runs.len rfl rfl hu27) ?_
            refine E.GL.cmp rfl rfl rfl (fun _ h => (E.Runs.lss rfl rfl rfl h)) (fun h50 => ?_) (fun h50 => ?_)
            · obtain ⟨x, hx⟩ : ∃ x, l[i]? = some x := ⟨_, List.getElem?_eq_getElem (by omega)⟩
              obtain ⟨ad, eA, X⟩ := int_at hd hx
              have hxd := hdd x (List.mem_of_getElem? hx)
              have hx0 := hxd.1
              have hx4 := hxd.2
              have hil : (i : Int) < l.length := by omega
              have hfp := pairs_few hV0.1
              refine E.GL.done ?_
              refine E.QG.code ?_
              refine E.CG.cond_t rfl ?_
              refine E.CG.skip ?_
              refine E.QG.code ?_
              refine E.CG.seq ?_
              refine E.CG.block ?_
              refine E.CG.seq ?_
              refine E.CG.heldH (none) (by kernel_rfl) fun v8 lD hh => ?_
              replace b2 := blk_below b2 lD
              replace b3 := blk_below b3 lD
              replace L := below_step L lD
              replace lx := below_step lx lD
              replace lq := below_step lq lD
              clear lD
              have s_b2 := b2
              have s_b3 := b3
              have s_L := L
              have s_lx := lx
              have s_lq := lq
              refine E.GH.take (i := 0) rfl (by kernel_rfl) (by kernel_rfl) (by kernel_rfl) (by intro c a d v w h; cases d <;> exact h) rfl rfl rfl (fun w' hS => (E.Runs.loads (cs := [.int .i64 M.fl, .int .i64 M.fh, .int .i64 M.al, .int .i64 M.ah, .int .i64 M.nl, .int .i64 M.nh, .int .i64 M.ra, .slice A M.gs.length c, .int .i64 M.wr]) rfl rfl hu26 rfl info26s (blk_cells (blk_grown s_b2 hS E.nen)))) ?_
              refine E.GH.take (i := 1) rfl (by kernel_rfl) (by kernel_rfl) (by kernel_rfl) (by intro c a d v w h; cases d <;> exact h) rfl rfl rfl (fun w' hS => (E.Runs.loads (cs := [.int .i64 M.fl, .int .i64 M.fh, .int .i64 M.al, .int .i64 M.ah, .int .i64 M.nl, .int .i64 M.nh, .int .i64 M.ra, .slice A M.gs.length c, .int .i64 M.wr]) rfl rfl hu26 rfl info26s (blk_cells (blk_grown s_b2 hS E.nen)))) ?_
              refine E.GH.take (i := 3) rfl (by kernel_rfl) (by kernel_rfl) (by kernel_rfl) (by intro c a d v w h; cases d <;> exact h) rfl rfl rfl (fun w' hS => (E.Runs.fieldAddr rfl rfl hu43 rfl (by assumption) rfl)) ?_
              refine E.GH.take (i := 4) rfl (by kernel_rfl) (by kernel_rfl) (by kernel_rfl) (by intro c a d v w h; cases d <;> exact h) rfl rfl rfl (fun w' hS => (E.Runs.load1 rfl rfl hu27 rfl (by first | exact E.keeps hS (E.blkc (by assumption) rfl) (by first | exact E.nen | exact E.nes (by assumption) | exact E.nes (Ne.symm (by assumption))) | exact pw_cell_below (below_step s_L (E.belowG hS)) (by assumption) | exact pw_cell_below (below_step s_lx (E.belowG hS)) (by assumption) | exact pw_cell_below (below_step s_lq (E.belowG hS)) (by assumption)))) ?_
              refine E.GH.take (i := 5) rfl (by kernel_rfl) (by kernel_rfl) (by kernel_rfl) (by intro c a d v w h; cases d <;> exact h) rfl rfl rfl (fun w' hS => (E.Runs.move rfl rfl)) ?_
              refine E.GH.take (i := 6) rfl (by kernel_rfl) (by kernel_rfl) (by kernel_rfl) (by intro c a d v w h; cases d <;> exact h) rfl rfl rfl (fun w' hS => (E.Runs.indexAddrA rfl rfl rfl hu27 (by assumption) (by assumption) (by assumption) (by first | rfl | assumption) rfl)) ?_
              refine E.GH.take (i := 7) rfl (by kernel_rfl) (by kernel_rfl) (by kernel_rfl) (by intro c a d v w h; cases d <;> exact h) rfl rfl rfl (fun w' hS => (E.Runs.load rfl rfl hu3 (by first | exact E.keeps hS (E.blkc (by assumption) rfl) (by first | exact E.nen | exact E.nes (by assumption) | exact E.nes (Ne.symm (by assumption))) | exact pw_cell_below (below_step s_L (E.belowG hS)) (by assumption) | exact pw_cell_below (below_step s_lx (E.belowG hS)) (by assumption) | exact pw_cell_below (below_step s_lq (E.belowG hS)) (by assumption)))) ?_
              refine E.GH.one (i := 2) (by kernel_rfl) rfl ?_
              refine E.GO.st rfl rfl rfl (E.ST.call rfl ent24 (E.evc rfl E.evn) ((new_calls M A c _ hV0.1).mono ?_))
              rintro e w55 ⟨v55, rfl, R55, l55⟩
              refine ⟨_, rfl, hh.trans (E.gbB l55), ?_⟩
              replace hh := hh.trans (E.gbB l55)
              replace b2 := blk_below b2 l55
              replace b3 := blk_below b3 l55
              replace L := below_step L l55
              replace lx := below_step lx l55
              replace lq := below_step lq l55
              obtain ⟨A55, c55, hv55⟩ := Kd.R_slice R55
              subst hv55
              obtain ⟨_, _, C55⟩ := Kd.R_reads' R55
              by_cases h61 : (showT M.nl M.nh M.ra) (pairs M) 0 x
              · refine E.GH.one (i := 8) (by kernel_rfl) rfl ?_
                refine E.GO.st rfl rfl rfl (E.ST.call rfl ent23 (E.evc rfl (E.evc rfl (E.evc rfl (E.evc rfl E.evn)))) ((canshow_calls M (pairs M) A A55 c c55 0 x _ true (iff_of_true rfl h61) C55 (fun y hy => pairs_ok hV0.1 hy) (by omega) ⟨by omega, by omega⟩ hxd hra).mono ?_))
                rintro e w61 ⟨rfl, l61⟩
                refine ⟨_, rfl, hh.trans (E.gbB l61), ?_⟩
                replace hh := hh.trans (E.gbB l61)
                replace b2 := blk_below b2 l61
                replace b3 := blk_below b3 l61
                replace L := below_step L l61
                replace lx := below_step lx l61
                replace lq := below_step lq l61
                refine E.GH.take (i := 9) rfl (by kernel_rfl) (by kernel_rfl) (by kernel_rfl) (by intro c a d v w h; cases d <;> exact h) rfl rfl rfl (fun w' hS => (E.Runs.not rfl rfl)) ?_
                refine E.GH.done (by kernel_rfl) ?_
                refine E.QG.code ?_
                refine E.CG.cond_f rfl ?_
                refine E.CG.skip ?_
                refine E.QG.block_normal ?_
                refine E.QG.code ?_
                refine E.CG.list ?_
                refine E.GL.run rfl rfl rfl (E.Runs.move rfl rfl) ?_
                refine E.GL.run rfl rfl rfl (E.Runs.add rfl rfl rfl (IntWalk.i64_in _ (by omega))) ?_
                refine E.GL.run rfl rfl rfl (E.Runs.assign rfl rfl) ?_
                refine E.GL.done ?_
                exact E.QG.round (i + 1) (E.subc rfl (E.subc rfl (E.subc rfl (E.subc rfl E.subn)))) ⟨by omega, lq, show_more (S := fun x => (showT M.nl M.nh M.ra) (pairs M) 0 x) hok hx h61⟩ (by omega)
              · refine E.GH.one (i := 8) (by kernel_rfl) rfl ?_
                refine E.GO.st rfl rfl rfl (E.ST.call rfl ent23 (E.evc rfl (E.evc rfl (E.evc rfl (E.evc rfl E.evn)))) ((canshow_calls M (pairs M) A A55 c c55 0 x _ false (iff_of_false Bool.false_ne_true h61) C55 (fun y hy => pairs_ok hV0.1 hy) (by omega) ⟨by omega, by omega⟩ hxd hra).mono ?_))
                rintro e w61 ⟨rfl, l61⟩
                refine ⟨_, rfl, hh.trans (E.gbB l61), ?_⟩
                replace hh := hh.trans (E.gbB l61)
                replace b2 := blk_below b2 l61
                replace b3 := blk_below b3 l61
                replace L := below_step L l61
                replace lx := below_step lx l61
                replace lq := below_step lq l61
                refine E.GH.take (i := 9) rfl (by kernel_rfl) (by kernel_rfl) (by kernel_rfl) (by intro c a d v w h; cases d <;> exact h) rfl rfl rfl (fun w' hS => (E.Runs.not rfl rfl)) ?_
                refine E.GH.done (by kernel_rfl) ?_
                refine E.QG.code ?_
                refine E.CG.cond_t rfl ?_
                refine E.CG.seq ?_
                refine E.CG.list ?_
                refine E.GL.run rfl rfl rfl (E.Runs.move rfl rfl) ?_
                refine E.GL.run rfl rfl rfl (E.Runs.len rfl rfl hu27) ?_
                refine E.GL.run rfl rfl rfl (E.Runs.eql rfl rfl rfl (decide_eq_true (by omega))) ?_
                refine E.GL.run rfl rfl rfl (E.Runs.move rfl rfl) ?_
                refine E.GL.st rfl rfl rfl (E.ST.call rfl ent13 E.evn ((works_calls _).mono ?_))
                rintro e w67 ⟨rfl, l67⟩
                refine ⟨_, rfl, ?_⟩
                replace b2 := blk_below b2 l67
                replace b3 := blk_below b3 l67
                replace L := below_step L l67
                replace lx := below_step lx l67
                replace lq := below_step lq l67
                refine E.GL.run rfl rfl rfl (E.Runs.pick_t rfl rfl rfl) ?_
                refine E.GL.run rfl rfl rfl (E.Runs.assign rfl rfl) ?_
                refine E.GL.done ?_
                refine E.QG.code ?_
                refine E.CG.ret ?_
                refine E.QG.block_ret ?_
                refine E.QG.pass_ret ?_
                refine E.QG.pass_ret ?_
                refine E.QG.block_ret ?_
                refine E.QG.pass_ret ?_
                refine E.QG.pass_ret ?_
                first | exact E.QG.result rfl rfl ⟨rfl, L⟩ | exact absurd habs id | fail
            · have habs := bad_no (S := fun x => (showT M.nl M.nh M.ra) (pairs M) 0 x) hbad hok (by omega)
              refine E.GL.done ?_
              refine E.QG.code ?_
              refine E.CG.cond_f rfl ?_
              refine E.CG.exit ?_
              refine E.QG.pass_exit ?_
              refine E.QG.pass_exit ?_
              refine E.QG.block_here ?_
              refine E.QG.code ?_
              refine E.CG.seq ?_
              refine E.CG.list ?_
              refine E.GL.run rfl rfl rfl (E.Runs.assign rfl rfl) ?_
              refine E.GL.done ?_
              refine E.QG.code ?_
              refine E.CG.ret ?_
              refine E.QG.pass_ret ?_
              first | exact E.QG.result rfl rfl ⟨rfl, L⟩ | exact absurd habs id | fail
          · obtain ⟨hE0, hq0⟩ := season_ok hE h45
            obtain ⟨hs1, hs2, hs3⟩ := season_plain hE hV0 hq0
            refine E.GL.done ?_
            refine E.QG.code ?_
            refine E.CG.cond_f rfl ?_
            refine E.CG.skip ?_
            refine E.QG.code ?_
            refine E.CG.seq ?_
            refine E.CG.seq ?_
            refine E.CG.list ?_
            refine E.GL.run rfl rfl rfl (E.Runs.move rfl rfl) ?_
            refine E.GL.run rfl rfl rfl (E.Runs.neq rfl rfl rfl (E.ne_f hE0)) ?_
            refine E.GL.run rfl rfl rfl (E.Runs.move rfl rfl) ?_
            refine E.GL.run rfl rfl rfl (E.Runs.move rfl rfl) ?_
            refine E.GL.run rfl rfl rfl (E.Runs.len rfl rfl hu27) ?_
            refine E.GL.run rfl rfl rfl (E.Runs.fieldAddr rfl rfl hu43 rfl (by assumption) rfl) ?_
            refine E.GL.run rfl rfl rfl (E.Runs.load1 rfl rfl hu27 rfl (by first | assumption | exact E.blkc (by assumption) rfl | exact pw_cell_below L (by assumption) | exact pw_cell_below lx (by assumption))) ?_
            refine E.GL.run rfl rfl rfl (E.Runs.len rfl rfl hu27) ?_
            refine E.GL.run rfl rfl rfl (E.Runs.gtr rfl rfl rfl (decide_eq_false (by omega))) ?_
            refine E.GL.run rfl rfl rfl (E.Runs.pick_f rfl rfl rfl) ?_
            refine E.GL.run rfl rfl rfl (E.Runs.move rfl rfl) ?_
            refine E.GL.run rfl rfl rfl (E.Runs.loads (cs := [.int .i64 M.fl, .int .i64 M.fh, .int .i64 M.al, .int .i64 M.ah, .int .i64 M.nl, .int .i64 M.nh, .int .i64 M.ra, .slice A M.gs.length c, .int .i64 M.wr]) rfl rfl hu26 rfl info26s (blk_cells b2)) ?_
            refine E.GL.run rfl rfl rfl (E.Runs.loads (cs := [.int .i64 b, .slice Ad l.length cd, .slice Ax k.length cx]) rfl rfl hu43 rfl info43s (blk_cells b3)) ?_
            refine E.GL.run rfl rfl rfl (E.Runs.move rfl rfl) ?_
            refine E.GL.st rfl rfl rfl (E.ST.call rfl ent25 (E.evc rfl (E.evc rfl (E.evc rfl E.evn))) ((shown_calls M A Ad Ax A41 c cd k.length cx c41 b l (chgL M b l) _ true (iff_of_true rfl hs1) hV0 hdb hdd (Kd.C_below hr L) (Kd.C_below hd L) (Kd.C_below C41 lx) (by omega) (by omega)).mono ?_))
            rintro e w83 ⟨rfl, l83⟩
            refine ⟨_, rfl, ?_⟩
            replace b2 := blk_below b2 l83
            replace b3 := blk_below b3 l83
            replace L := below_step L l83
            replace lx := below_step lx l83
            refine E.GL.run rfl rfl rfl (E.Runs.not rfl rfl) ?_
            refine E.GL.run rfl rfl rfl (E.Runs.pick_f rfl rfl rfl) ?_
            refine E.GL.run rfl rfl rfl (E.Runs.move rfl rfl) ?_
            refine E.GL.run rfl rfl rfl (E.Runs.loads (cs := [.int .i64 M.fl, .int .i64 M.fh, .int .i64 M.al, .int .i64 M.ah, .int .i64 M.nl, .int .i64 M.nh, .int .i64 M.ra, .slice A M.gs.length c, .int .i64 M.wr]) rfl rfl hu26 rfl info26s (blk_cells b2)) ?_
            refine E.GL.run rfl rfl rfl (E.Runs.loads (cs := [.int .i64 b, .slice Ad l.length cd, .slice Ax k.length cx]) rfl rfl hu43 rfl info43s (blk_cells b3)) ?_
            refine E.GL.run rfl rfl rfl (E.Runs.fieldAddr rfl rfl hu43 rfl (by assumption) rfl) ?_
            refine E.GL.run rfl rfl rfl (E.Runs.load1 rfl rfl hu27 rfl (by first | assumption | exact E.blkc (by assumption) rfl | exact pw_cell_below L (by assumption) | exact pw_cell_below lx (by assumption))) ?_
            by_cases h91 : shw (showT M.nl M.nh M.ra) (pairs M) (truths M) b l 0 k
            · refine E.GL.st rfl rfl rfl (E.ST.call rfl ent25 (E.evc rfl (E.evc rfl (E.evc rfl E.evn))) ((shown_calls M A Ad Ax Ax c cd k.length cx cx b l k _ true (iff_of_true rfl h91) hV0 hdb hdd (Kd.C_below hr L) (Kd.C_below hd L) (Kd.C_below hk L) (by omega) (by omega)).mono ?_))
              rintro e w91 ⟨rfl, l91⟩
              refine ⟨_, rfl, ?_⟩
              replace b2 := blk_below b2 l91
              replace b3 := blk_below b3 l91
              replace L := below_step L l91
              replace lx := below_step lx l91
              refine E.GL.run rfl rfl rfl (E.Runs.move rfl rfl) ?_
              refine E.GL.run rfl rfl rfl (E.Runs.fieldAddr rfl rfl hu43 rfl (by assumption) rfl) ?_
              refine E.GL.run rfl rfl rfl (E.Runs.load1 rfl rfl hu27 rfl (by first | assumption | exact E.blkc (by assumption) rfl | exact pw_cell_below L (by assumption) | exact pw_cell_below lx (by assumption))) ?_
              refine E.GL.run rfl rfl rfl (E.Runs.len rfl rfl hu27) ?_
              refine E.GL.run rfl rfl rfl (E.Runs.move rfl rfl) ?_
              refine E.GL.run rfl rfl rfl (E.Runs.len rfl rfl hu27) ?_
              refine E.GL.run rfl rfl rfl (E.Runs.lss rfl rfl rfl (decide_eq_false (by have := hs2 k h91; omega))) ?_
              refine E.GL.run rfl rfl rfl (E.Runs.pick_t rfl rfl rfl) ?_
              refine E.GL.run rfl rfl rfl (E.Runs.pick_f rfl rfl rfl) ?_
              refine E.GL.done ?_
              refine E.QG.code ?_
              refine E.CG.cond_f rfl ?_
              refine E.CG.skip ?_
              refine E.QG.code ?_
              refine E.CG.seq ?_
              refine E.CG.seq ?_
              refine E.CG.list ?_
              refine E.GL.run rfl rfl rfl (E.Runs.assign rfl rfl) ?_
              refine E.GL.done ?_
              refine E.QG.code ?_
              refine E.CG.block ?_
              have s14_b2 := b2
              have s14_b3 := b3
              have s14_L := L
              have s14_lx := lx
              refine E.CG.loop (fun (i : Nat) => [(2, .pointer (some ⟨g2, 0, none⟩)), (3, .pointer (some ⟨g3, 0, none⟩)), (5, .slice A41 (chgL M b l).length c41), (8, .int .i64 i)]) (fun i w' => i ≤ (chgL M b l).length ∧ Below w91.heap.size w91 w') (fun i => (chgL M b l).length - i) 0 (E.subc rfl (E.subc rfl (E.subc rfl (E.subc rfl E.subn)))) ⟨Nat.zero_le _, Below.refl _ _⟩ ?_
              rintro i w14 ⟨hi, lq⟩
              replace b2 := blk_below b2 lq
              replace b3 := blk_below b3 lq
              replace L := below_step L lq
              replace lx := below_step lx lq
              have lw := Below.refl w14.heap.size w14
              have hs14_L := L.size
              have hs14_q := lq.size
              have hs14_x := lx.size
              refine E.CG.seq ?_
              refine E.CG.seq ?_
              refine E.CG.list ?_
              refine E.GL.run rfl rfl rfl (E.Runs.move rfl rfl) ?_
              refine E.GL.run rfl rfl rfl (E.Runs.move rfl rfl) ?_
              refine E.GL.run rfl rfl rfl (E.Runs.len rfl rfl hu27) ?_
              refine E.GL.cmp rfl rfl rfl (fun _ h => (E.Runs.lss rfl rfl rfl h)) (fun h104 => ?_) (fun h104 => ?_)
              · obtain ⟨y, hy⟩ : ∃ y, (chgL M b l)[i]? = some y := ⟨_, List.getElem?_eq_getElem (by omega)⟩
                have hlat := hs3 i y hy
                have hic : (i : Int) < (chgL M b l).length := by omega
                have hy0 := season_elem hE hq0 hy
                obtain ⟨ac, eC, Y⟩ := int_at C41 hy
                refine E.GL.done ?_
                refine E.QG.code ?_
                refine E.CG.cond_t rfl ?_
                refine E.CG.skip ?_
                refine E.QG.code ?_
                refine E.CG.seq ?_
                refine E.CG.block ?_
                refine E.CG.seq ?_
                refine E.CG.list ?_
                refine E.GL.st rfl rfl rfl (E.ST.litAt kI w14.heap.size (w0 := w14) (ys := ([] : List Int)) (inner := []) rfl rfl E.epn lit27n (Reps.none _ _) lw lw.size (by simp) fun u107 w107 r107 k107 l107 n107 => ?_)
                have hsw := lw.size
                replace b2 := blk_below b2 l107
                replace b3 := blk_below b3 l107
                replace L := below_step L l107
                replace lx := below_step lx l107
                replace lq := below_step lq l107
                replace lw := below_step lw l107
                
                refine E.GL.run rfl rfl rfl (E.Runs.move rfl rfl) ?_
                refine E.GL.st rfl rfl rfl (E.ST.appendRows kI w14.heap.size (w0 := w14) (s := .tmp 107) (x := .tmp 108) rfl hu27 info3 rfl (by decide) (by decide) rfl rfl r107 (Kd.C_below C41 lx) made27 lw lw.size (by simp only [List.length_nil]; omega) fun u109 w109 r109 k109 g109 => ?_)
                have hlq := lq.size
                have hlx := lx.size
                have hLs := L.size
                rw [List.nil_append] at r109
                obtain ⟨A109, c109, hv109⟩ := Kd.R_slice r109
                subst hv109
                replace b2 := blk_grown b2 g109 (Kd.R_ne r107 b2 (by decide))
                replace b3 := blk_grown b3 g109 (Kd.R_ne r107 b3 (by decide))
                replace L := L.grown g109 L.size (fun z e => by have := Kd.R_base r107 z e; omega)
                replace lx := lx.grown g109 lx.size (fun z e => by have := Kd.R_base r107 z e; omega)
                replace lq := lq.grown g109 lq.size (fun z e => by have := Kd.R_base r107 z e; omega)
                replace lw := lw.grown g109 lw.size (fun z e => by have := Kd.R_base r107 z e; omega)
                clear r107
                refine E.GL.run rfl rfl rfl (E.Runs.assign rfl rfl) ?_
                refine E.GL.done ?_
                refine E.QG.code ?_
                refine E.CG.seq ?_
                obtain ⟨gR, eR, hgR, cf, fr, stR⟩ := rowI_at r109 hy
                refine E.CG.list ?_
                refine E.GL.run rfl rfl rfl (E.Runs.move rfl rfl) ?_
                refine E.GL.run rfl rfl rfl (E.Runs.move rfl rfl) ?_
                refine E.GL.run rfl rfl rfl (E.Runs.indexAddrA rfl rfl rfl hu27 (by assumption) (by assumption) (by assumption) (by first | rfl | assumption) (show _ = (⟨gR, i * 1, none⟩ : Addr) from by rw [Go.Addr.add_mid, Nat.zero_add])) ?_
                refine E.GL.run rfl rfl rfl (E.Runs.load rfl rfl hu3 (by first | assumption | exact E.blkc (by assumption) rfl | exact pw_cell_below L (by assumption) | exact pw_cell_below lx (by assumption) | exact pw_cell_below lq (by assumption) | exact pw_cell_below lw (by assumption))) ?_
                refine E.GL.run rfl rfl rfl (E.Runs.add rfl rfl rfl (IntWalk.i64_in _ (by omega))) ?_
                refine E.GL.run rfl rfl rfl (E.Runs.indexAddrA rfl rfl rfl hu27 (by assumption) (by assumption) (by assumption) (by first | rfl | assumption) (show _ = (⟨gR, i * 1, none⟩ : Addr) from by rw [Go.Addr.add_mid, Nat.zero_add])) ?_
                refine E.GL.sn rfl rfl (E.ST.store1 rfl z3 o3 rfl rfl cf fr ?_)
                obtain ⟨RJ, gJ⟩ := stR (y + 1)
                obtain ⟨wJ, hwJ⟩ : ∃ wJ, wJ = World.setCell w109 ⟨gR, i * 1, none⟩ (.int .i64 (y + 1)) := ⟨_, rfl⟩
                rw [← hwJ] at RJ gJ
                rw [← hwJ]
                replace b2 := blk_grown b2 gJ (show some g2 ≠ some gR from by have := Kd.R_ne r109 b2 (by decide); rw [eR] at this; exact this)
                replace b3 := blk_grown b3 gJ (show some g3 ≠ some gR from by have := Kd.R_ne r109 b3 (by decide); rw [eR] at this; exact this)
                replace L := E.below_own L (by omega) gJ
                replace lx := E.below_own lx (by omega) gJ
                replace lq := E.below_own lq (by omega) gJ
                replace lw := E.below_own lw (by omega) gJ
                replace r109 := RJ
                clear RJ gJ
                have hyl : ((chgL M b l).set i (y + 1)).length = (chgL M b l).length := List.length_set ..
                have C109 := (Kd.R_reads' r109).2.2
                have hset : ((chgL M b l).set i (y + 1))[i]? = some (y + 1) := by rw [List.getElem?_set_self (by omega)]
                obtain ⟨gR2, eR2, hgR2, cf2, fr2, _⟩ := rowI_at r109 hset
                obtain rfl : gR = gR2 := by rw [eR] at eR2; injection eR2 with e; injection e
                have lz := Below.refl wJ.heap.size wJ
                refine E.GL.done ?_
                refine E.QG.code ?_
                refine E.CG.seq ?_
                refine E.CG.heldH (none) (by kernel_rfl) fun v18 lD hh => ?_
                replace b2 := blk_below b2 lD
                replace b3 := blk_below b3 lD
                replace r109 := Kd.R_below r109 lD
                replace L := below_step L lD
                replace lx := below_step lx lD
                replace lq := below_step lq lD
                replace lw := below_step lw lD
                replace lz := below_step lz lD
                clear lD
                have s_b2 := b2
                have s_b3 := b3
                have s_L := L
                have s_lx := lx
                have s_lq := lq
                have s_lw := lw
                have s_lz := lz
                refine E.GH.take (i := 0) rfl (by kernel_rfl) (by kernel_rfl) (by kernel_rfl) (by intro c a d v w h; cases d <;> exact h) rfl rfl rfl (fun w' hS => (E.Runs.move rfl rfl)) ?_
                refine E.GH.take (i := 1) rfl (by kernel_rfl) (by kernel_rfl) (by kernel_rfl) (by intro c a d v w h; cases d <;> exact h) rfl rfl rfl (fun w' hS => (E.Runs.add rfl rfl rfl (IntWalk.i64_in _ (by omega)))) ?_
                refine E.GH.take (i := 2) rfl (by kernel_rfl) (by kernel_rfl) (by kernel_rfl) (by intro c a d v w h; cases d <;> exact h) rfl rfl rfl (fun w' hS => (E.Runs.move rfl rfl)) ?_
                refine E.GH.take (i := 3) rfl (by kernel_rfl) (by kernel_rfl) (by kernel_rfl) (by intro c a d v w h; cases d <;> exact h) rfl rfl rfl (fun w' hS => (E.Runs.len rfl rfl hu27)) ?_
                refine E.GH.cmp (i := 4) rfl (by kernel_rfl) (by kernel_rfl) (by kernel_rfl) (by intro c a d v w h; cases d <;> exact h) rfl rfl rfl (fun _ h w' hS => (E.Runs.eql rfl rfl rfl h)) (fun h120 => ?_) (fun h120 => ?_)
                · refine E.GH.take (i := 5) rfl (by kernel_rfl) (by kernel_rfl) (by kernel_rfl) (by intro c a d v w h; cases d <;> exact h) rfl rfl rfl (fun w' hS => (E.Runs.move rfl rfl)) ?_
                  refine E.GH.pass (i := 6) rfl (by kernel_rfl) (by kernel_rfl) (by kernel_rfl) (by intro c a d v w h; cases d <;> exact h) rfl rfl rfl ?_
                  refine E.GH.pass (i := 7) rfl (by kernel_rfl) (by kernel_rfl) (by kernel_rfl) (by intro c a d v w h; cases d <;> exact h) rfl rfl rfl ?_
                  refine E.GH.pass (i := 8) rfl (by kernel_rfl) (by kernel_rfl) (by kernel_rfl) (by intro c a d v w h; cases d <;> exact h) rfl rfl rfl ?_
                  refine E.GH.pass (i := 9) rfl (by kernel_rfl) (by kernel_rfl) (by kernel_rfl) (by intro c a d v w h; cases d <;> exact h) rfl rfl rfl ?_
                  refine E.GH.pass (i := 10) rfl (by kernel_rfl) (by kernel_rfl) (by kernel_rfl) (by intro c a d v w h; cases d <;> exact h) rfl rfl rfl ?_
                  refine E.GH.pass (i := 11) rfl (by kernel_rfl) (by kernel_rfl) (by kernel_rfl) (by intro c a d v w h; cases d <;> exact h) rfl rfl rfl ?_
                  refine E.GH.pass (i := 12) rfl (by kernel_rfl) (by kernel_rfl) (by kernel_rfl) (by intro c a d v w h; cases d <;> exact h) rfl rfl rfl ?_
                  refine E.GH.pass (i := 13) rfl (by kernel_rfl) (by kernel_rfl) (by kernel_rfl) (by intro c a d v w h; cases d <;> exact h) rfl rfl rfl ?_
                  refine E.GH.pass (i := 14) rfl (by kernel_rfl) (by kernel_rfl) (by kernel_rfl) (by intro c a d v w h; cases d <;> exact h) rfl rfl rfl ?_
                  refine E.GH.pass (i := 15) rfl (by kernel_rfl) (by kernel_rfl) (by kernel_rfl) (by intro c a d v w h; cases d <;> exact h) rfl rfl rfl ?_
                  refine E.GH.take (i := 16) rfl (by kernel_rfl) (by kernel_rfl) (by kernel_rfl) (by intro c a d v w h; cases d <;> exact h) rfl rfl rfl (fun w' hS => (E.Runs.pick_t rfl rfl rfl)) ?_
                  refine E.GH.take (i := 17) rfl (by kernel_rfl) (by kernel_rfl) (by kernel_rfl) (by intro c a d v w h; cases d <;> exact h) rfl rfl rfl (fun w' hS => (E.Runs.move rfl rfl)) ?_
                  refine E.GH.take (i := 18) rfl (by kernel_rfl) (by kernel_rfl) (by kernel_rfl) (by intro c a d v w h; cases d <;> exact h) rfl rfl rfl (fun w' hS => (E.Runs.move rfl rfl)) ?_
                  refine E.GH.take (i := 19) rfl (by kernel_rfl) (by kernel_rfl) (by kernel_rfl) (by intro c a d v w h; cases d <;> exact h) rfl rfl rfl (fun w' hS => (E.Runs.move rfl rfl)) ?_
                  refine E.GH.take (i := 20) rfl (by kernel_rfl) (by kernel_rfl) (by kernel_rfl) (by intro c a d v w h; cases d <;> exact h) rfl rfl rfl (fun w' hS => (E.Runs.indexAddrA rfl rfl rfl hu27 (by assumption) (by assumption) (by assumption) (by first | rfl | assumption) (show _ = (⟨gR, i * 1, none⟩ : Addr) from by rw [Go.Addr.add_mid, Nat.zero_add]))) ?_
                  refine E.GH.take (i := 21) rfl (by kernel_rfl) (by kernel_rfl) (by kernel_rfl) (by intro c a d v w h; cases d <;> exact h) rfl rfl rfl (fun w' hS => (E.Runs.load rfl rfl hu3 (by first | exact E.keeps hS (E.blkc (by assumption) rfl) (by first | exact E.nen | exact E.nes (by assumption) | exact E.nes (Ne.symm (by assumption))) | exact pw_cell_below (below_step s_L (E.belowG hS)) (by assumption) | exact pw_cell_below (below_step s_lx (E.belowG hS)) (by assumption) | exact pw_cell_below (below_step s_lq (E.belowG hS)) (by assumption) | exact pw_cell_below (below_step s_lw (E.belowG hS)) (by assumption) | exact pw_cell_below (below_step s_lz (E.belowG hS)) (by assumption)))) ?_
                  refine E.GH.take (i := 22) rfl (by kernel_rfl) (by kernel_rfl) (by kernel_rfl) (by intro c a d v w h; cases d <;> exact h) rfl rfl rfl (fun w' hS => (E.Runs.fieldAddr rfl rfl hu43 rfl (by assumption) rfl)) ?_
                  refine E.GH.take (i := 23) rfl (by kernel_rfl) (by kernel_rfl) (by kernel_rfl) (by intro c a d v w h; cases d <;> exact h) rfl rfl rfl (fun w' hS => (E.Runs.load1 rfl rfl hu27 rfl (by first | exact E.keeps hS (E.blkc (by assumption) rfl) (by first | exact E.nen | exact E.nes (by assumption) | exact E.nes (Ne.symm (by assumption))) | exact pw_cell_below (below_step s_L (E.belowG hS)) (by assumption) | exact pw_cell_below (below_step s_lx (E.belowG hS)) (by assumption) | exact pw_cell_below (below_step s_lq (E.belowG hS)) (by assumption) | exact pw_cell_below (below_step s_lw (E.belowG hS)) (by assumption) | exact pw_cell_below (below_step s_lz (E.belowG hS)) (by assumption)))) ?_
                  refine E.GH.take (i := 24) rfl (by kernel_rfl) (by kernel_rfl) (by kernel_rfl) (by intro c a d v w h; cases d <;> exact h) rfl rfl rfl (fun w' hS => (E.Runs.len rfl rfl hu27)) ?_
                  refine E.GH.cmp (i := 25) rfl (by kernel_rfl) (by kernel_rfl) (by kernel_rfl) (by intro c a d v w h; cases d <;> exact h) rfl rfl rfl (fun _ h w' hS => (E.Runs.lss rfl rfl rfl h)) (fun h141 => ?_) (fun h141 => ?_)
                  · refine E.GH.take (i := 26) rfl (by kernel_rfl) (by kernel_rfl) (by kernel_rfl) (by intro c a d v w h; cases d <;> exact h) rfl rfl rfl (fun w' hS => (E.Runs.pick_t rfl rfl rfl)) ?_
                    refine E.GH.take (i := 27) rfl (by kernel_rfl) (by kernel_rfl) (by kernel_rfl) (by intro c a d v w h; cases d <;> exact h) rfl rfl rfl (fun w' hS => (E.Runs.move rfl rfl)) ?_
                    refine E.GH.take (i := 28) rfl (by kernel_rfl) (by kernel_rfl) (by kernel_rfl) (by intro c a d v w h; cases d <;> exact h) rfl rfl rfl (fun w' hS => (E.Runs.loads (cs := [.int .i64 M.fl, .int .i64 M.fh, .int .i64 M.al, .int .i64 M.ah, .int .i64 M.nl, .int .i64 M.nh, .int .i64 M.ra, .slice A M.gs.length c, .int .i64 M.wr]) rfl rfl hu26 rfl info26s (blk_cells (blk_grown s_b2 hS E.nen)))) ?_
                    refine E.GH.take (i := 29) rfl (by kernel_rfl) (by kernel_rfl) (by kernel_rfl) (by intro c a d v w h; cases d <;> exact h) rfl rfl rfl (fun w' hS => (E.Runs.loads (cs := [.int .i64 b, .slice Ad l.length cd, .slice Ax k.length cx]) rfl rfl hu43 rfl info43s (blk_cells (blk_grown s_b3 hS E.nen)))) ?_
                    refine E.GH.take (i := 30) rfl (by kernel_rfl) (by kernel_rfl) (by kernel_rfl) (by intro c a d v w h; cases d <;> exact h) rfl rfl rfl (fun w' hS => (E.Runs.move rfl rfl)) ?_
                    refine E.GH.one (i := 31) (by kernel_rfl) rfl ?_
                    refine E.GO.st rfl rfl rfl (E.ST.call rfl ent25 (E.evc rfl (E.evc rfl (E.evc rfl E.evn))) ((shown_any M A Ad Ax A109 c cd k.length cx c109 (chgL M b l).length b l ((chgL M b l).set i (y + 1)) _ false (iff_of_false Bool.false_ne_true hlat) hV0 hdb hdd (Kd.C_below hr L) (Kd.C_below hd L) hyl.symm (Kd.C_below C109 lz) (by omega) (by omega)).mono ?_))
                    rintro e w147 ⟨rfl, l147⟩
                    refine ⟨_, rfl, hh.trans (E.gbB l147), ?_⟩
                    replace hh := hh.trans (E.gbB l147)
                    replace b2 := blk_below b2 l147
                    replace b3 := blk_below b3 l147
                    replace r109 := Kd.R_below r109 l147
                    replace L := below_step L l147
                    replace lx := below_step lx l147
                    replace lq := below_step lq l147
                    replace lw := below_step lw l147
                    replace lz := below_step lz l147
                    refine E.GH.take (i := 32) rfl (by kernel_rfl) (by kernel_rfl) (by kernel_rfl) (by intro c a d v w h; cases d <;> exact h) rfl rfl rfl (fun w' hS => (E.Runs.pick_t rfl rfl rfl)) ?_
                    refine E.GH.done (by kernel_rfl) ?_
                    refine E.QG.code ?_
                    refine E.CG.cond_f rfl ?_
                    refine E.CG.skip ?_
                    refine E.QG.block_normal ?_
                    refine E.QG.code ?_
                    refine E.CG.list ?_
                    refine E.GL.run rfl rfl rfl (E.Runs.move rfl rfl) ?_
                    refine E.GL.run rfl rfl rfl (E.Runs.add rfl rfl rfl (IntWalk.i64_in _ (by omega))) ?_
                    refine E.GL.run rfl rfl rfl (E.Runs.assign rfl rfl) ?_
                    refine E.GL.done ?_
                    exact E.QG.round (i + 1) (E.subc rfl (E.subc rfl (E.subc rfl (E.subc rfl E.subn)))) ⟨by omega, lq⟩ (by omega)
                  · refine E.GH.take (i := 26) rfl (by kernel_rfl) (by kernel_rfl) (by kernel_rfl) (by intro c a d v w h; cases d <;> exact h) rfl rfl rfl (fun w' hS => (E.Runs.pick_t rfl rfl rfl)) ?_
                    refine E.GH.take (i := 27) rfl (by kernel_rfl) (by kernel_rfl) (by kernel_rfl) (by intro c a d v w h; cases d <;> exact h) rfl rfl rfl (fun w' hS => (E.Runs.move rfl rfl)) ?_
                    refine E.GH.pass (i := 28) rfl (by kernel_rfl) (by kernel_rfl) (by kernel_rfl) (by intro c a d v w h; cases d <;> exact h) rfl rfl rfl ?_
                    refine E.GH.pass (i := 29) rfl (by kernel_rfl) (by kernel_rfl) (by kernel_rfl) (by intro c a d v w h; cases d <;> exact h) rfl rfl rfl ?_
                    refine E.GH.pass (i := 30) rfl (by kernel_rfl) (by kernel_rfl) (by kernel_rfl) (by intro c a d v w h; cases d <;> exact h) rfl rfl rfl ?_
                    refine E.GH.pass (i := 31) rfl (by kernel_rfl) (by kernel_rfl) (by kernel_rfl) (by intro c a d v w h; cases d <;> exact h) rfl rfl rfl ?_
                    refine E.GH.take (i := 32) rfl (by kernel_rfl) (by kernel_rfl) (by kernel_rfl) (by intro c a d v w h; cases d <;> exact h) rfl rfl rfl (fun w' hS => (E.Runs.pick_f rfl rfl rfl)) ?_
                    refine E.GH.done (by kernel_rfl) ?_
                    refine E.QG.code ?_
                    refine E.CG.cond_f rfl ?_
                    refine E.CG.skip ?_
                    refine E.QG.block_normal ?_
                    refine E.QG.code ?_
                    refine E.CG.list ?_
                    refine E.GL.run rfl rfl rfl (E.Runs.move rfl rfl) ?_
                    refine E.GL.run rfl rfl rfl (E.Runs.add rfl rfl rfl (IntWalk.i64_in _ (by omega))) ?_
                    refine E.GL.run rfl rfl rfl (E.Runs.assign rfl rfl) ?_
                    refine E.GL.done ?_
                    exact E.QG.round (i + 1) (E.subc rfl (E.subc rfl (E.subc rfl (E.subc rfl E.subn)))) ⟨by omega, lq⟩ (by omega)
                · obtain ⟨y2, hy2⟩ : ∃ y, (chgL M b l)[i + 1]? = some y := ⟨_, List.getElem?_eq_getElem (by omega)⟩
                  obtain ⟨ac2, eC2, Y2⟩ := int_at C41 hy2
                  obtain rfl : ac = ac2 := by rw [eC] at eC2; injection eC2
                  have hi1 : ((i + 1 : Nat) : Int) < (chgL M b l).length := by omega
                  refine E.GH.take (i := 5) rfl (by kernel_rfl) (by kernel_rfl) (by kernel_rfl) (by intro c a d v w h; cases d <;> exact h) rfl rfl rfl (fun w' hS => (E.Runs.move rfl rfl)) ?_
                  refine E.GH.take (i := 6) rfl (by kernel_rfl) (by kernel_rfl) (by kernel_rfl) (by intro c a d v w h; cases d <;> exact h) rfl rfl rfl (fun w' hS => (E.Runs.move rfl rfl)) ?_
                  refine E.GH.take (i := 7) rfl (by kernel_rfl) (by kernel_rfl) (by kernel_rfl) (by intro c a d v w h; cases d <;> exact h) rfl rfl rfl (fun w' hS => (E.Runs.move rfl rfl)) ?_
                  refine E.GH.take (i := 8) rfl (by kernel_rfl) (by kernel_rfl) (by kernel_rfl) (by intro c a d v w h; cases d <;> exact h) rfl rfl rfl (fun w' hS => (E.Runs.indexAddrA rfl rfl rfl hu27 (by assumption) (by assumption) (by assumption) (by first | rfl | assumption) (show _ = (⟨gR, i * 1, none⟩ : Addr) from by rw [Go.Addr.add_mid, Nat.zero_add]))) ?_
                  refine E.GH.take (i := 9) rfl (by kernel_rfl) (by kernel_rfl) (by kernel_rfl) (by intro c a d v w h; cases d <;> exact h) rfl rfl rfl (fun w' hS => (E.Runs.load rfl rfl hu3 (by first | exact E.keeps hS (E.blkc (by assumption) rfl) (by first | exact E.nen | exact E.nes (by assumption) | exact E.nes (Ne.symm (by assumption))) | exact pw_cell_below (below_step s_L (E.belowG hS)) (by assumption) | exact pw_cell_below (below_step s_lx (E.belowG hS)) (by assumption) | exact pw_cell_below (below_step s_lq (E.belowG hS)) (by assumption) | exact pw_cell_below (below_step s_lw (E.belowG hS)) (by assumption) | exact pw_cell_below (below_step s_lz (E.belowG hS)) (by assumption)))) ?_
                  refine E.GH.take (i := 10) rfl (by kernel_rfl) (by kernel_rfl) (by kernel_rfl) (by intro c a d v w h; cases d <;> exact h) rfl rfl rfl (fun w' hS => (E.Runs.move rfl rfl)) ?_
                  refine E.GH.take (i := 11) rfl (by kernel_rfl) (by kernel_rfl) (by kernel_rfl) (by intro c a d v w h; cases d <;> exact h) rfl rfl rfl (fun w' hS => (E.Runs.move rfl rfl)) ?_
                  refine E.GH.take (i := 12) rfl (by kernel_rfl) (by kernel_rfl) (by kernel_rfl) (by intro c a d v w h; cases d <;> exact h) rfl rfl rfl (fun w' hS => (E.Runs.add rfl rfl rfl (IntWalk.i64_in _ (by omega)))) ?_
                  refine E.GH.take (i := 13) rfl (by kernel_rfl) (by kernel_rfl) (by kernel_rfl) (by intro c a d v w h; cases d <;> exact h) rfl rfl rfl (fun w' hS => (E.Runs.indexAddrA rfl rfl rfl hu27 (by assumption) (by assumption) (by assumption) (by first | rfl | assumption) rfl)) ?_
                  refine E.GH.take (i := 14) rfl (by kernel_rfl) (by kernel_rfl) (by kernel_rfl) (by intro c a d v w h; cases d <;> exact h) rfl rfl rfl (fun w' hS => (E.Runs.load rfl rfl hu3 (by first | exact E.keeps hS (E.blkc (by assumption) rfl) (by first | exact E.nen | exact E.nes (by assumption) | exact E.nes (Ne.symm (by assumption))) | exact pw_cell_below (below_step s_L (E.belowG hS)) (by assumption) | exact pw_cell_below (below_step s_lx (E.belowG hS)) (by assumption) | exact pw_cell_below (below_step s_lq (E.belowG hS)) (by assumption) | exact pw_cell_below (below_step s_lw (E.belowG hS)) (by assumption) | exact pw_cell_below (below_step s_lz (E.belowG hS)) (by assumption)))) ?_
                  refine E.GH.cmp (i := 15) rfl (by kernel_rfl) (by kernel_rfl) (by kernel_rfl) (by intro c a d v w h; cases d <;> exact h) rfl rfl rfl (fun _ h w' hS => (E.Runs.lss rfl rfl rfl h)) (fun h131 => ?_) (fun h131 => ?_)
                  · refine E.GH.take (i := 16) rfl (by kernel_rfl) (by kernel_rfl) (by kernel_rfl) (by intro c a d v w h; cases d <;> exact h) rfl rfl rfl (fun w' hS => (E.Runs.pick_f rfl rfl rfl)) ?_
                    refine E.GH.take (i := 17) rfl (by kernel_rfl) (by kernel_rfl) (by kernel_rfl) (by intro c a d v w h; cases d <;> exact h) rfl rfl rfl (fun w' hS => (E.Runs.move rfl rfl)) ?_
                    refine E.GH.take (i := 18) rfl (by kernel_rfl) (by kernel_rfl) (by kernel_rfl) (by intro c a d v w h; cases d <;> exact h) rfl rfl rfl (fun w' hS => (E.Runs.move rfl rfl)) ?_
                    refine E.GH.take (i := 19) rfl (by kernel_rfl) (by kernel_rfl) (by kernel_rfl) (by intro c a d v w h; cases d <;> exact h) rfl rfl rfl (fun w' hS => (E.Runs.move rfl rfl)) ?_
                    refine E.GH.take (i := 20) rfl (by kernel_rfl) (by kernel_rfl) (by kernel_rfl) (by intro c a d v w h; cases d <;> exact h) rfl rfl rfl (fun w' hS => (E.Runs.indexAddrA rfl rfl rfl hu27 (by assumption) (by assumption) (by assumption) (by first | rfl | assumption) (show _ = (⟨gR, i * 1, none⟩ : Addr) from by rw [Go.Addr.add_mid, Nat.zero_add]))) ?_
                    refine E.GH.take (i := 21) rfl (by kernel_rfl) (by kernel_rfl) (by kernel_rfl) (by intro c a d v w h; cases d <;> exact h) rfl rfl rfl (fun w' hS => (E.Runs.load rfl rfl hu3 (by first | exact E.keeps hS (E.blkc (by assumption) rfl) (by first | exact E.nen | exact E.nes (by assumption) | exact E.nes (Ne.symm (by assumption))) | exact pw_cell_below (below_step s_L (E.belowG hS)) (by assumption) | exact pw_cell_below (below_step s_lx (E.belowG hS)) (by assumption) | exact pw_cell_below (below_step s_lq (E.belowG hS)) (by assumption) | exact pw_cell_below (below_step s_lw (E.belowG hS)) (by assumption) | exact pw_cell_below (below_step s_lz (E.belowG hS)) (by assumption)))) ?_
                    refine E.GH.take (i := 22) rfl (by kernel_rfl) (by kernel_rfl) (by kernel_rfl) (by intro c a d v w h; cases d <;> exact h) rfl rfl rfl (fun w' hS => (E.Runs.fieldAddr rfl rfl hu43 rfl (by assumption) rfl)) ?_
                    refine E.GH.take (i := 23) rfl (by kernel_rfl) (by kernel_rfl) (by kernel_rfl) (by intro c a d v w h; cases d <;> exact h) rfl rfl rfl (fun w' hS => (E.Runs.load1 rfl rfl hu27 rfl (by first | exact E.keeps hS (E.blkc (by assumption) rfl) (by first | exact E.nen | exact E.nes (by assumption) | exact E.nes (Ne.symm (by assumption))) | exact pw_cell_below (below_step s_L (E.belowG hS)) (by assumption) | exact pw_cell_below (below_step s_lx (E.belowG hS)) (by assumption) | exact pw_cell_below (below_step s_lq (E.belowG hS)) (by assumption) | exact pw_cell_below (below_step s_lw (E.belowG hS)) (by assumption) | exact pw_cell_below (below_step s_lz (E.belowG hS)) (by assumption)))) ?_
                    refine E.GH.take (i := 24) rfl (by kernel_rfl) (by kernel_rfl) (by kernel_rfl) (by intro c a d v w h; cases d <;> exact h) rfl rfl rfl (fun w' hS => (E.Runs.len rfl rfl hu27)) ?_
                    refine E.GH.cmp (i := 25) rfl (by kernel_rfl) (by kernel_rfl) (by kernel_rfl) (by intro c a d v w h; cases d <;> exact h) rfl rfl rfl (fun _ h w' hS => (E.Runs.lss rfl rfl rfl h)) (fun h141 => ?_) (fun h141 => ?_)
                    · refine E.GH.take (i := 26) rfl (by kernel_rfl) (by kernel_rfl) (by kernel_rfl) (by intro c a d v w h; cases d <;> exact h) rfl rfl rfl (fun w' hS => (E.Runs.pick_t rfl rfl rfl)) ?_
                      refine E.GH.take (i := 27) rfl (by kernel_rfl) (by kernel_rfl) (by kernel_rfl) (by intro c a d v w h; cases d <;> exact h) rfl rfl rfl (fun w' hS => (E.Runs.move rfl rfl)) ?_
                      refine E.GH.take (i := 28) rfl (by kernel_rfl) (by kernel_rfl) (by kernel_rfl) (by intro c a d v w h; cases d <;> exact h) rfl rfl rfl (fun w' hS => (E.Runs.loads (cs := [.int .i64 M.fl, .int .i64 M.fh, .int .i64 M.al, .int .i64 M.ah, .int .i64 M.nl, .int .i64 M.nh, .int .i64 M.ra, .slice A M.gs.length c, .int .i64 M.wr]) rfl rfl hu26 rfl info26s (blk_cells (blk_grown s_b2 hS E.nen)))) ?_
                      refine E.GH.take (i := 29) rfl (by kernel_rfl) (by kernel_rfl) (by kernel_rfl) (by intro c a d v w h; cases d <;> exact h) rfl rfl rfl (fun w' hS => (E.Runs.loads (cs := [.int .i64 b, .slice Ad l.length cd, .slice Ax k.length cx]) rfl rfl hu43 rfl info43s (blk_cells (blk_grown s_b3 hS E.nen)))) ?_
                      refine E.GH.take (i := 30) rfl (by kernel_rfl) (by kernel_rfl) (by kernel_rfl) (by intro c a d v w h; cases d <;> exact h) rfl rfl rfl (fun w' hS => (E.Runs.move rfl rfl)) ?_
                      refine E.GH.one (i := 31) (by kernel_rfl) rfl ?_
                      refine E.GO.st rfl rfl rfl (E.ST.call rfl ent25 (E.evc rfl (E.evc rfl (E.evc rfl E.evn))) ((shown_any M A Ad Ax A109 c cd k.length cx c109 (chgL M b l).length b l ((chgL M b l).set i (y + 1)) _ false (iff_of_false Bool.false_ne_true hlat) hV0 hdb hdd (Kd.C_below hr L) (Kd.C_below hd L) hyl.symm (Kd.C_below C109 lz) (by omega) (by omega)).mono ?_))
                      rintro e w147 ⟨rfl, l147⟩
                      refine ⟨_, rfl, hh.trans (E.gbB l147), ?_⟩
                      replace hh := hh.trans (E.gbB l147)
                      replace b2 := blk_below b2 l147
                      replace b3 := blk_below b3 l147
                      replace r109 := Kd.R_below r109 l147
                      replace L := below_step L l147
                      replace lx := below_step lx l147
                      replace lq := below_step lq l147
                      replace lw := below_step lw l147
                      replace lz := below_step lz l147
                      refine E.GH.take (i := 32) rfl (by kernel_rfl) (by kernel_rfl) (by kernel_rfl) (by intro c a d v w h; cases d <;> exact h) rfl rfl rfl (fun w' hS => (E.Runs.pick_t rfl rfl rfl)) ?_
                      refine E.GH.done (by kernel_rfl) ?_
                      refine E.QG.code ?_
                      refine E.CG.cond_f rfl ?_
                      refine E.CG.skip ?_
                      refine E.QG.block_normal ?_
                      refine E.QG.code ?_
                      refine E.CG.list ?_
                      refine E.GL.run rfl rfl rfl (E.Runs.move rfl rfl) ?_
                      refine E.GL.run rfl rfl rfl (E.Runs.add rfl rfl rfl (IntWalk.i64_in _ (by omega))) ?_
                      refine E.GL.run rfl rfl rfl (E.Runs.assign rfl rfl) ?_
                      refine E.GL.done ?_
                      exact E.QG.round (i + 1) (E.subc rfl (E.subc rfl (E.subc rfl (E.subc rfl E.subn)))) ⟨by omega, lq⟩ (by omega)
                    · refine E.GH.take (i := 26) rfl (by kernel_rfl) (by kernel_rfl) (by kernel_rfl) (by intro c a d v w h; cases d <;> exact h) rfl rfl rfl (fun w' hS => (E.Runs.pick_t rfl rfl rfl)) ?_
                      refine E.GH.take (i := 27) rfl (by kernel_rfl) (by kernel_rfl) (by kernel_rfl) (by intro c a d v w h; cases d <;> exact h) rfl rfl rfl (fun w' hS => (E.Runs.move rfl rfl)) ?_
                      refine E.GH.pass (i := 28) rfl (by kernel_rfl) (by kernel_rfl) (by kernel_rfl) (by intro c a d v w h; cases d <;> exact h) rfl rfl rfl ?_
                      refine E.GH.pass (i := 29) rfl (by kernel_rfl) (by kernel_rfl) (by kernel_rfl) (by intro c a d v w h; cases d <;> exact h) rfl rfl rfl ?_
                      refine E.GH.pass (i := 30) rfl (by kernel_rfl) (by kernel_rfl) (by kernel_rfl) (by intro c a d v w h; cases d <;> exact h) rfl rfl rfl ?_
                      refine E.GH.pass (i := 31) rfl (by kernel_rfl) (by kernel_rfl) (by kernel_rfl) (by intro c a d v w h; cases d <;> exact h) rfl rfl rfl ?_
                      refine E.GH.take (i := 32) rfl (by kernel_rfl) (by kernel_rfl) (by kernel_rfl) (by intro c a d v w h; cases d <;> exact h) rfl rfl rfl (fun w' hS => (E.Runs.pick_f rfl rfl rfl)) ?_
                      refine E.GH.done (by kernel_rfl) ?_
                      refine E.QG.code ?_
                      refine E.CG.cond_f rfl ?_
                      refine E.CG.skip ?_
                      refine E.QG.block_normal ?_
                      refine E.QG.code ?_
                      refine E.CG.list ?_
                      refine E.GL.run rfl rfl rfl (E.Runs.move rfl rfl) ?_
                      refine E.GL.run rfl rfl rfl (E.Runs.add rfl rfl rfl (IntWalk.i64_in _ (by omega))) ?_
                      refine E.GL.run rfl rfl rfl (E.Runs.assign rfl rfl) ?_
                      refine E.GL.done ?_
                      exact E.QG.round (i + 1) (E.subc rfl (E.subc rfl (E.subc rfl (E.subc rfl E.subn)))) ⟨by omega, lq⟩ (by omega)
                  · refine E.GH.take (i := 16) rfl (by kernel_rfl) (by kernel_rfl) (by kernel_rfl) (by intro c a d v w h; cases d <;> exact h) rfl rfl rfl (fun w' hS => (E.Runs.pick_f rfl rfl rfl)) ?_
                    refine E.GH.take (i := 17) rfl (by kernel_rfl) (by kernel_rfl) (by kernel_rfl) (by intro c a d v w h; cases d <;> exact h) rfl rfl rfl (fun w' hS => (E.Runs.move rfl rfl)) ?_
                    refine E.GH.pass (i := 18) rfl (by kernel_rfl) (by kernel_rfl) (by kernel_rfl) (by intro c a d v w h; cases d <;> exact h) rfl rfl rfl ?_
                    refine E.GH.pass (i := 19) rfl (by kernel_rfl) (by kernel_rfl) (by kernel_rfl) (by intro c a d v w h; cases d <;> exact h) rfl rfl rfl ?_
                    refine E.GH.pass (i := 20) rfl (by kernel_rfl) (by kernel_rfl) (by kernel_rfl) (by intro c a d v w h; cases d <;> exact h) rfl rfl rfl ?_
                    refine E.GH.pass (i := 21) rfl (by kernel_rfl) (by kernel_rfl) (by kernel_rfl) (by intro c a d v w h; cases d <;> exact h) rfl rfl rfl ?_
                    refine E.GH.pass (i := 22) rfl (by kernel_rfl) (by kernel_rfl) (by kernel_rfl) (by intro c a d v w h; cases d <;> exact h) rfl rfl rfl ?_
                    refine E.GH.pass (i := 23) rfl (by kernel_rfl) (by kernel_rfl) (by kernel_rfl) (by intro c a d v w h; cases d <;> exact h) rfl rfl rfl ?_
                    refine E.GH.pass (i := 24) rfl (by kernel_rfl) (by kernel_rfl) (by kernel_rfl) (by intro c a d v w h; cases d <;> exact h) rfl rfl rfl ?_
                    refine E.GH.pass (i := 25) rfl (by kernel_rfl) (by kernel_rfl) (by kernel_rfl) (by intro c a d v w h; cases d <;> exact h) rfl rfl rfl ?_
                    refine E.GH.take (i := 26) rfl (by kernel_rfl) (by kernel_rfl) (by kernel_rfl) (by intro c a d v w h; cases d <;> exact h) rfl rfl rfl (fun w' hS => (E.Runs.pick_f rfl rfl rfl)) ?_
                    refine E.GH.take (i := 27) rfl (by kernel_rfl) (by kernel_rfl) (by kernel_rfl) (by intro c a d v w h; cases d <;> exact h) rfl rfl rfl (fun w' hS => (E.Runs.move rfl rfl)) ?_
                    refine E.GH.pass (i := 28) rfl (by kernel_rfl) (by kernel_rfl) (by kernel_rfl) (by intro c a d v w h; cases d <;> exact h) rfl rfl rfl ?_
                    refine E.GH.pass (i := 29) rfl (by kernel_rfl) (by kernel_rfl) (by kernel_rfl) (by intro c a d v w h; cases d <;> exact h) rfl rfl rfl ?_
                    refine E.GH.pass (i := 30) rfl (by kernel_rfl) (by kernel_rfl) (by kernel_rfl) (by intro c a d v w h; cases d <;> exact h) rfl rfl rfl ?_
                    refine E.GH.pass (i := 31) rfl (by kernel_rfl) (by kernel_rfl) (by kernel_rfl) (by intro c a d v w h; cases d <;> exact h) rfl rfl rfl ?_
                    refine E.GH.take (i := 32) rfl (by kernel_rfl) (by kernel_rfl) (by kernel_rfl) (by intro c a d v w h; cases d <;> exact h) rfl rfl rfl (fun w' hS => (E.Runs.pick_f rfl rfl rfl)) ?_
                    refine E.GH.done (by kernel_rfl) ?_
                    refine E.QG.code ?_
                    refine E.CG.cond_f rfl ?_
                    refine E.CG.skip ?_
                    refine E.QG.block_normal ?_
                    refine E.QG.code ?_
                    refine E.CG.list ?_
                    refine E.GL.run rfl rfl rfl (E.Runs.move rfl rfl) ?_
                    refine E.GL.run rfl rfl rfl (E.Runs.add rfl rfl rfl (IntWalk.i64_in _ (by omega))) ?_
                    refine E.GL.run rfl rfl rfl (E.Runs.assign rfl rfl) ?_
                    refine E.GL.done ?_
                    exact E.QG.round (i + 1) (E.subc rfl (E.subc rfl (E.subc rfl (E.subc rfl E.subn)))) ⟨by omega, lq⟩ (by omega)
              · refine E.GL.done ?_
                refine E.QG.code ?_
                refine E.CG.cond_f rfl ?_
                refine E.CG.exit ?_
                refine E.QG.pass_exit ?_
                refine E.QG.pass_exit ?_
                refine E.QG.block_here ?_
                refine E.QG.code ?_
                refine E.CG.seq ?_
                refine E.CG.list ?_
                refine E.GL.st rfl rfl rfl (E.ST.call rfl ent13 E.evn ((works_calls _).mono ?_))
                rintro e w149 ⟨rfl, l149⟩
                refine ⟨_, rfl, ?_⟩
                replace b2 := blk_below b2 l149
                replace b3 := blk_below b3 l149
                replace L := below_step L l149
                replace lx := below_step lx l149
                replace lq := below_step lq l149
                refine E.GL.run rfl rfl rfl (E.Runs.assign rfl rfl) ?_
                refine E.GL.done ?_
                refine E.QG.code ?_
                refine E.CG.ret ?_
                first | exact E.QG.result rfl rfl ⟨rfl, L⟩ | exact absurd habs id | fail
            · refine E.GL.st rfl rfl rfl (E.ST.call rfl ent25 (E.evc rfl (E.evc rfl (E.evc rfl E.evn))) ((shown_calls M A Ad Ax Ax c cd k.length cx cx b l k _ false (iff_of_false Bool.false_ne_true h91) hV0 hdb hdd (Kd.C_below hr L) (Kd.C_below hd L) (Kd.C_below hk L) (by omega) (by omega)).mono ?_))
              rintro e w91 ⟨rfl, l91⟩
              refine ⟨_, rfl, ?_⟩
              replace b2 := blk_below b2 l91
              replace b3 := blk_below b3 l91
              replace L := below_step L l91
              replace lx := below_step lx l91
              refine E.GL.run rfl rfl rfl (E.Runs.move rfl rfl) ?_
              refine E.GL.skip rfl rfl rfl ?_
              refine E.GL.skip rfl rfl rfl ?_
              refine E.GL.skip rfl rfl rfl ?_
              refine E.GL.skip rfl rfl rfl ?_
              refine E.GL.skip rfl rfl rfl ?_
              refine E.GL.skip rfl rfl rfl ?_
              refine E.GL.run rfl rfl rfl (E.Runs.pick_f rfl rfl rfl) ?_
              refine E.GL.run rfl rfl rfl (E.Runs.pick_f rfl rfl rfl) ?_
              refine E.GL.done ?_
              refine E.QG.code ?_
              refine E.CG.cond_f rfl ?_
              refine E.CG.skip ?_
              refine E.QG.code ?_
              refine E.CG.seq ?_
              refine E.CG.seq ?_
              refine E.CG.list ?_
              refine E.GL.run rfl rfl rfl (E.Runs.assign rfl rfl) ?_
              refine E.GL.done ?_
              refine E.QG.code ?_
              refine E.CG.block ?_
              have s14_b2 := b2
              have s14_b3 := b3
              have s14_L := L
              have s14_lx := lx
              refine E.CG.loop (fun (i : Nat) => [(2, .pointer (some ⟨g2, 0, none⟩)), (3, .pointer (some ⟨g3, 0, none⟩)), (5, .slice A41 (chgL M b l).length c41), (8, .int .i64 i)]) (fun i w' => i ≤ (chgL M b l).length ∧ Below w91.heap.size w91 w') (fun i => (chgL M b l).length - i) 0 (E.subc rfl (E.subc rfl (E.subc rfl (E.subc rfl E.subn)))) ⟨Nat.zero_le _, Below.refl _ _⟩ ?_
              rintro i w14 ⟨hi, lq⟩
              replace b2 := blk_below b2 lq
              replace b3 := blk_below b3 lq
              replace L := below_step L lq
              replace lx := below_step lx lq
              have lw := Below.refl w14.heap.size w14
              have hs14_L := L.size
              have hs14_q := lq.size
              have hs14_x := lx.size
              refine E.CG.seq ?_
              refine E.CG.seq ?_
              refine E.CG.list ?_
              refine E.GL.run rfl rfl rfl (E.Runs.move rfl rfl) ?_
              refine E.GL.run rfl rfl rfl (E.Runs.move rfl rfl) ?_
              refine E.GL.run rfl rfl rfl (E.Runs.len rfl rfl hu27) ?_
              refine E.GL.cmp rfl rfl rfl (fun _ h => (E.Runs.lss rfl rfl rfl h)) (fun h104 => ?_) (fun h104 => ?_)
              · obtain ⟨y, hy⟩ : ∃ y, (chgL M b l)[i]? = some y := ⟨_, List.getElem?_eq_getElem (by omega)⟩
                have hlat := hs3 i y hy
                have hic : (i : Int) < (chgL M b l).length := by omega
                have hy0 := season_elem hE hq0 hy
                obtain ⟨ac, eC, Y⟩ := int_at C41 hy
                refine E.GL.done ?_
                refine E.QG.code ?_
                refine E.CG.cond_t rfl ?_
                refine E.CG.skip ?_
                refine E.QG.code ?_
                refine E.CG.seq ?_
                refine E.CG.block ?_
                refine E.CG.seq ?_
                refine E.CG.list ?_
                refine E.GL.st rfl rfl rfl (E.ST.litAt kI w14.heap.size (w0 := w14) (ys := ([] : List Int)) (inner := []) rfl rfl E.epn lit27n (Reps.none _ _) lw lw.size (by simp) fun u107 w107 r107 k107 l107 n107 => ?_)
                have hsw := lw.size
                replace b2 := blk_below b2 l107
                replace b3 := blk_below b3 l107
                replace L := below_step L l107
                replace lx := below_step lx l107
                replace lq := below_step lq l107
                replace lw := below_step lw l107
                
                refine E.GL.run rfl rfl rfl (E.Runs.move rfl rfl) ?_
                refine E.GL.st rfl rfl rfl (E.ST.appendRows kI w14.heap.size (w0 := w14) (s := .tmp 107) (x := .tmp 108) rfl hu27 info3 rfl (by decide) (by decide) rfl rfl r107 (Kd.C_below C41 lx) made27 lw lw.size (by simp only [List.length_nil]; omega) fun u109 w109 r109 k109 g109 => ?_)
                have hlq := lq.size
                have hlx := lx.size
                have hLs := L.size
                rw [List.nil_append] at r109
                obtain ⟨A109, c109, hv109⟩ := Kd.R_slice r109
                subst hv109
                replace b2 := blk_grown b2 g109 (Kd.R_ne r107 b2 (by decide))
                replace b3 := blk_grown b3 g109 (Kd.R_ne r107 b3 (by decide))
                replace L := L.grown g109 L.size (fun z e => by have := Kd.R_base r107 z e; omega)
                replace lx := lx.grown g109 lx.size (fun z e => by have := Kd.R_base r107 z e; omega)
                replace lq := lq.grown g109 lq.size (fun z e => by have := Kd.R_base r107 z e; omega)
                replace lw := lw.grown g109 lw.size (fun z e => by have := Kd.R_base r107 z e; omega)
                clear r107
                refine E.GL.run rfl rfl rfl (E.Runs.assign rfl rfl) ?_
                refine E.GL.done ?_
                refine E.QG.code ?_
                refine E.CG.seq ?_
                obtain ⟨gR, eR, hgR, cf, fr, stR⟩ := rowI_at r109 hy
                refine E.CG.list ?_
                refine E.GL.run rfl rfl rfl (E.Runs.move rfl rfl) ?_
                refine E.GL.run rfl rfl rfl (E.Runs.move rfl rfl) ?_
                refine E.GL.run rfl rfl rfl (E.Runs.indexAddrA rfl rfl rfl hu27 (by assumption) (by assumption) (by assumption) (by first | rfl | assumption) (show _ = (⟨gR, i * 1, none⟩ : Addr) from by rw [Go.Addr.add_mid, Nat.zero_add])) ?_
                refine E.GL.run rfl rfl rfl (E.Runs.load rfl rfl hu3 (by first | assumption | exact E.blkc (by assumption) rfl | exact pw_cell_below L (by assumption) | exact pw_cell_below lx (by assumption) | exact pw_cell_below lq (by assumption) | exact pw_cell_below lw (by assumption))) ?_
                refine E.GL.run rfl rfl rfl (E.Runs.add rfl rfl rfl (IntWalk.i64_in _ (by omega))) ?_
                refine E.GL.run rfl rfl rfl (E.Runs.indexAddrA rfl rfl rfl hu27 (by assumption) (by assumption) (by assumption) (by first | rfl | assumption) (show _ = (⟨gR, i * 1, none⟩ : Addr) from by rw [Go.Addr.add_mid, Nat.zero_add])) ?_
                refine E.GL.sn rfl rfl (E.ST.store1 rfl z3 o3 rfl rfl cf fr ?_)
                obtain ⟨RJ, gJ⟩ := stR (y + 1)
                obtain ⟨wJ, hwJ⟩ : ∃ wJ, wJ = World.setCell w109 ⟨gR, i * 1, none⟩ (.int .i64 (y + 1)) := ⟨_, rfl⟩
                rw [← hwJ] at RJ gJ
                rw [← hwJ]
                replace b2 := blk_grown b2 gJ (show some g2 ≠ some gR from by have := Kd.R_ne r109 b2 (by decide); rw [eR] at this; exact this)
                replace b3 := blk_grown b3 gJ (show some g3 ≠ some gR from by have := Kd.R_ne r109 b3 (by decide); rw [eR] at this; exact this)
                replace L := E.below_own L (by omega) gJ
                replace lx := E.below_own lx (by omega) gJ
                replace lq := E.below_own lq (by omega) gJ
                replace lw := E.below_own lw (by omega) gJ
                replace r109 := RJ
                clear RJ gJ
                have hyl : ((chgL M b l).set i (y + 1)).length = (chgL M b l).length := List.length_set ..
                have C109 := (Kd.R_reads' r109).2.2
                have hset : ((chgL M b l).set i (y + 1))[i]? = some (y + 1) := by rw [List.getElem?_set_self (by omega)]
                obtain ⟨gR2, eR2, hgR2, cf2, fr2, _⟩ := rowI_at r109 hset
                obtain rfl : gR = gR2 := by rw [eR] at eR2; injection eR2 with e; injection e
                have lz := Below.refl wJ.heap.size wJ
                refine E.GL.done ?_
                refine E.QG.code ?_
                refine E.CG.seq ?_
                refine E.CG.heldH (none) (by kernel_rfl) fun v18 lD hh => ?_
                replace b2 := blk_below b2 lD
                replace b3 := blk_below b3 lD
                replace r109 := Kd.R_below r109 lD
                replace L := below_step L lD
                replace lx := below_step lx lD
                replace lq := below_step lq lD
                replace lw := below_step lw lD
                replace lz := below_step lz lD
                clear lD
                have s_b2 := b2
                have s_b3 := b3
                have s_L := L
                have s_lx := lx
                have s_lq := lq
                have s_lw := lw
                have s_lz := lz
                refine E.GH.take (i := 0) rfl (by kernel_rfl) (by kernel_rfl) (by kernel_rfl) (by intro c a d v w h; cases d <;> exact h) rfl rfl rfl (fun w' hS => (E.Runs.move rfl rfl)) ?_
                refine E.GH.take (i := 1) rfl (by kernel_rfl) (by kernel_rfl) (by kernel_rfl) (by intro c a d v w h; cases d <;> exact h) rfl rfl rfl (fun w' hS => (E.Runs.add rfl rfl rfl (IntWalk.i64_in _ (by omega)))) ?_
                refine E.GH.take (i := 2) rfl (by kernel_rfl) (by kernel_rfl) (by kernel_rfl) (by intro c a d v w h; cases d <;> exact h) rfl rfl rfl (fun w' hS => (E.Runs.move rfl rfl)) ?_
                refine E.GH.take (i := 3) rfl (by kernel_rfl) (by kernel_rfl) (by kernel_rfl) (by intro c a d v w h; cases d <;> exact h) rfl rfl rfl (fun w' hS => (E.Runs.len rfl rfl hu27)) ?_
                refine E.GH.cmp (i := 4) rfl (by kernel_rfl) (by kernel_rfl) (by kernel_rfl) (by intro c a d v w h; cases d <;> exact h) rfl rfl rfl (fun _ h w' hS => (E.Runs.eql rfl rfl rfl h)) (fun h120 => ?_) (fun h120 => ?_)
                · refine E.GH.take (i := 5) rfl (by kernel_rfl) (by kernel_rfl) (by kernel_rfl) (by intro c a d v w h; cases d <;> exact h) rfl rfl rfl (fun w' hS => (E.Runs.move rfl rfl)) ?_
                  refine E.GH.pass (i := 6) rfl (by kernel_rfl) (by kernel_rfl) (by kernel_rfl) (by intro c a d v w h; cases d <;> exact h) rfl rfl rfl ?_
                  refine E.GH.pass (i := 7) rfl (by kernel_rfl) (by kernel_rfl) (by kernel_rfl) (by intro c a d v w h; cases d <;> exact h) rfl rfl rfl ?_
                  refine E.GH.pass (i := 8) rfl (by kernel_rfl) (by kernel_rfl) (by kernel_rfl) (by intro c a d v w h; cases d <;> exact h) rfl rfl rfl ?_
                  refine E.GH.pass (i := 9) rfl (by kernel_rfl) (by kernel_rfl) (by kernel_rfl) (by intro c a d v w h; cases d <;> exact h) rfl rfl rfl ?_
                  refine E.GH.pass (i := 10) rfl (by kernel_rfl) (by kernel_rfl) (by kernel_rfl) (by intro c a d v w h; cases d <;> exact h) rfl rfl rfl ?_
                  refine E.GH.pass (i := 11) rfl (by kernel_rfl) (by kernel_rfl) (by kernel_rfl) (by intro c a d v w h; cases d <;> exact h) rfl rfl rfl ?_
                  refine E.GH.pass (i := 12) rfl (by kernel_rfl) (by kernel_rfl) (by kernel_rfl) (by intro c a d v w h; cases d <;> exact h) rfl rfl rfl ?_
                  refine E.GH.pass (i := 13) rfl (by kernel_rfl) (by kernel_rfl) (by kernel_rfl) (by intro c a d v w h; cases d <;> exact h) rfl rfl rfl ?_
                  refine E.GH.pass (i := 14) rfl (by kernel_rfl) (by kernel_rfl) (by kernel_rfl) (by intro c a d v w h; cases d <;> exact h) rfl rfl rfl ?_
                  refine E.GH.pass (i := 15) rfl (by kernel_rfl) (by kernel_rfl) (by kernel_rfl) (by intro c a d v w h; cases d <;> exact h) rfl rfl rfl ?_
                  refine E.GH.take (i := 16) rfl (by kernel_rfl) (by kernel_rfl) (by kernel_rfl) (by intro c a d v w h; cases d <;> exact h) rfl rfl rfl (fun w' hS => (E.Runs.pick_t rfl rfl rfl)) ?_
                  refine E.GH.take (i := 17) rfl (by kernel_rfl) (by kernel_rfl) (by kernel_rfl) (by intro c a d v w h; cases d <;> exact h) rfl rfl rfl (fun w' hS => (E.Runs.move rfl rfl)) ?_
                  refine E.GH.take (i := 18) rfl (by kernel_rfl) (by kernel_rfl) (by kernel_rfl) (by intro c a d v w h; cases d <;> exact h) rfl rfl rfl (fun w' hS => (E.Runs.move rfl rfl)) ?_
                  refine E.GH.take (i := 19) rfl (by kernel_rfl) (by kernel_rfl) (by kernel_rfl) (by intro c a d v w h; cases d <;> exact h) rfl rfl rfl (fun w' hS => (E.Runs.move rfl rfl)) ?_
                  refine E.GH.take (i := 20) rfl (by kernel_rfl) (by kernel_rfl) (by kernel_rfl) (by intro c a d v w h; cases d <;> exact h) rfl rfl rfl (fun w' hS => (E.Runs.indexAddrA rfl rfl rfl hu27 (by assumption) (by assumption) (by assumption) (by first | rfl | assumption) (show _ = (⟨gR, i * 1, none⟩ : Addr) from by rw [Go.Addr.add_mid, Nat.zero_add]))) ?_
                  refine E.GH.take (i := 21) rfl (by kernel_rfl) (by kernel_rfl) (by kernel_rfl) (by intro c a d v w h; cases d <;> exact h) rfl rfl rfl (fun w' hS => (E.Runs.load rfl rfl hu3 (by first | exact E.keeps hS (E.blkc (by assumption) rfl) (by first | exact E.nen | exact E.nes (by assumption) | exact E.nes (Ne.symm (by assumption))) | exact pw_cell_below (below_step s_L (E.belowG hS)) (by assumption) | exact pw_cell_below (below_step s_lx (E.belowG hS)) (by assumption) | exact pw_cell_below (below_step s_lq (E.belowG hS)) (by assumption) | exact pw_cell_below (below_step s_lw (E.belowG hS)) (by assumption) | exact pw_cell_below (below_step s_lz (E.belowG hS)) (by assumption)))) ?_
                  refine E.GH.take (i := 22) rfl (by kernel_rfl) (by kernel_rfl) (by kernel_rfl) (by intro c a d v w h; cases d <;> exact h) rfl rfl rfl (fun w' hS => (E.Runs.fieldAddr rfl rfl hu43 rfl (by assumption) rfl)) ?_
                  refine E.GH.take (i := 23) rfl (by kernel_rfl) (by kernel_rfl) (by kernel_rfl) (by intro c a d v w h; cases d <;> exact h) rfl rfl rfl (fun w' hS => (E.Runs.load1 rfl rfl hu27 rfl (by first | exact E.keeps hS (E.blkc (by assumption) rfl) (by first | exact E.nen | exact E.nes (by assumption) | exact E.nes (Ne.symm (by assumption))) | exact pw_cell_below (below_step s_L (E.belowG hS)) (by assumption) | exact pw_cell_below (below_step s_lx (E.belowG hS)) (by assumption) | exact pw_cell_below (below_step s_lq (E.belowG hS)) (by assumption) | exact pw_cell_below (below_step s_lw (E.belowG hS)) (by assumption) | exact pw_cell_below (below_step s_lz (E.belowG hS)) (by assumption)))) ?_
                  refine E.GH.take (i := 24) rfl (by kernel_rfl) (by kernel_rfl) (by kernel_rfl) (by intro c a d v w h; cases d <;> exact h) rfl rfl rfl (fun w' hS => (E.Runs.len rfl rfl hu27)) ?_
                  refine E.GH.cmp (i := 25) rfl (by kernel_rfl) (by kernel_rfl) (by kernel_rfl) (by intro c a d v w h; cases d <;> exact h) rfl rfl rfl (fun _ h w' hS => (E.Runs.lss rfl rfl rfl h)) (fun h141 => ?_) (fun h141 => ?_)
                  · refine E.GH.take (i := 26) rfl (by kernel_rfl) (by kernel_rfl) (by kernel_rfl) (by intro c a d v w h; cases d <;> exact h) rfl rfl rfl (fun w' hS => (E.Runs.pick_t rfl rfl rfl)) ?_
                    refine E.GH.take (i := 27) rfl (by kernel_rfl) (by kernel_rfl) (by kernel_rfl) (by intro c a d v w h; cases d <;> exact h) rfl rfl rfl (fun w' hS => (E.Runs.move rfl rfl)) ?_
                    refine E.GH.take (i := 28) rfl (by kernel_rfl) (by kernel_rfl) (by kernel_rfl) (by intro c a d v w h; cases d <;> exact h) rfl rfl rfl (fun w' hS => (E.Runs.loads (cs := [.int .i64 M.fl, .int .i64 M.fh, .int .i64 M.al, .int .i64 M.ah, .int .i64 M.nl, .int .i64 M.nh, .int .i64 M.ra, .slice A M.gs.length c, .int .i64 M.wr]) rfl rfl hu26 rfl info26s (blk_cells (blk_grown s_b2 hS E.nen)))) ?_
                    refine E.GH.take (i := 29) rfl (by kernel_rfl) (by kernel_rfl) (by kernel_rfl) (by intro c a d v w h; cases d <;> exact h) rfl rfl rfl (fun w' hS => (E.Runs.loads (cs := [.int .i64 b, .slice Ad l.length cd, .slice Ax k.length cx]) rfl rfl hu43 rfl info43s (blk_cells (blk_grown s_b3 hS E.nen)))) ?_
                    refine E.GH.take (i := 30) rfl (by kernel_rfl) (by kernel_rfl) (by kernel_rfl) (by intro c a d v w h; cases d <;> exact h) rfl rfl rfl (fun w' hS => (E.Runs.move rfl rfl)) ?_
                    refine E.GH.one (i := 31) (by kernel_rfl) rfl ?_
                    refine E.GO.st rfl rfl rfl (E.ST.call rfl ent25 (E.evc rfl (E.evc rfl (E.evc rfl E.evn))) ((shown_any M A Ad Ax A109 c cd k.length cx c109 (chgL M b l).length b l ((chgL M b l).set i (y + 1)) _ false (iff_of_false Bool.false_ne_true hlat) hV0 hdb hdd (Kd.C_below hr L) (Kd.C_below hd L) hyl.symm (Kd.C_below C109 lz) (by omega) (by omega)).mono ?_))
                    rintro e w147 ⟨rfl, l147⟩
                    refine ⟨_, rfl, hh.trans (E.gbB l147), ?_⟩
                    replace hh := hh.trans (E.gbB l147)
                    replace b2 := blk_below b2 l147
                    replace b3 := blk_below b3 l147
                    replace r109 := Kd.R_below r109 l147
                    replace L := below_step L l147
                    replace lx := below_step lx l147
                    replace lq := below_step lq l147
                    replace lw := below_step lw l147
                    replace lz := below_step lz l147
                    refine E.GH.take (i := 32) rfl (by kernel_rfl) (by kernel_rfl) (by kernel_rfl) (by intro c a d v w h; cases d <;> exact h) rfl rfl rfl (fun w' hS => (E.Runs.pick_t rfl rfl rfl)) ?_
                    refine E.GH.done (by kernel_rfl) ?_
                    refine E.QG.code ?_
                    refine E.CG.cond_f rfl ?_
                    refine E.CG.skip ?_
                    refine E.QG.block_normal ?_
                    refine E.QG.code ?_
                    refine E.CG.list ?_
                    refine E.GL.run rfl rfl rfl (E.Runs.move rfl rfl) ?_
                    refine E.GL.run rfl rfl rfl (E.Runs.add rfl rfl rfl (IntWalk.i64_in _ (by omega))) ?_
                    refine E.GL.run rfl rfl rfl (E.Runs.assign rfl rfl) ?_
                    refine E.GL.done ?_
                    exact E.QG.round (i + 1) (E.subc rfl (E.subc rfl (E.subc rfl (E.subc rfl E.subn)))) ⟨by omega, lq⟩ (by omega)
                  · refine E.GH.take (i := 26) rfl (by kernel_rfl) (by kernel_rfl) (by kernel_rfl) (by intro c a d v w h; cases d <;> exact h) rfl rfl rfl (fun w' hS => (E.Runs.pick_t rfl rfl rfl)) ?_
                    refine E.GH.take (i := 27) rfl (by kernel_rfl) (by kernel_rfl) (by kernel_rfl) (by intro c a d v w h; cases d <;> exact h) rfl rfl rfl (fun w' hS => (E.Runs.move rfl rfl)) ?_
                    refine E.GH.pass (i := 28) rfl (by kernel_rfl) (by kernel_rfl) (by kernel_rfl) (by intro c a d v w h; cases d <;> exact h) rfl rfl rfl ?_
                    refine E.GH.pass (i := 29) rfl (by kernel_rfl) (by kernel_rfl) (by kernel_rfl) (by intro c a d v w h; cases d <;> exact h) rfl rfl rfl ?_
                    refine E.GH.pass (i := 30) rfl (by kernel_rfl) (by kernel_rfl) (by kernel_rfl) (by intro c a d v w h; cases d <;> exact h) rfl rfl rfl ?_
                    refine E.GH.pass (i := 31) rfl (by kernel_rfl) (by kernel_rfl) (by kernel_rfl) (by intro c a d v w h; cases d <;> exact h) rfl rfl rfl ?_
                    refine E.GH.take (i := 32) rfl (by kernel_rfl) (by kernel_rfl) (by kernel_rfl) (by intro c a d v w h; cases d <;> exact h) rfl rfl rfl (fun w' hS => (E.Runs.pick_f rfl rfl rfl)) ?_
                    refine E.GH.done (by kernel_rfl) ?_
                    refine E.QG.code ?_
                    refine E.CG.cond_f rfl ?_
                    refine E.CG.skip ?_
                    refine E.QG.block_normal ?_
                    refine E.QG.code ?_
                    refine E.CG.list ?_
                    refine E.GL.run rfl rfl rfl (E.Runs.move rfl rfl) ?_
                    refine E.GL.run rfl rfl rfl (E.Runs.add rfl rfl rfl (IntWalk.i64_in _ (by omega))) ?_
                    refine E.GL.run rfl rfl rfl (E.Runs.assign rfl rfl) ?_
                    refine E.GL.done ?_
                    exact E.QG.round (i + 1) (E.subc rfl (E.subc rfl (E.subc rfl (E.subc rfl E.subn)))) ⟨by omega, lq⟩ (by omega)
                · obtain ⟨y2, hy2⟩ : ∃ y, (chgL M b l)[i + 1]? = some y := ⟨_, List.getElem?_eq_getElem (by omega)⟩
                  obtain ⟨ac2, eC2, Y2⟩ := int_at C41 hy2
                  obtain rfl : ac = ac2 := by rw [eC] at eC2; injection eC2
                  have hi1 : ((i + 1 : Nat) : Int) < (chgL M b l).length := by omega
                  refine E.GH.take (i := 5) rfl (by kernel_rfl) (by kernel_rfl) (by kernel_rfl) (by intro c a d v w h; cases d <;> exact h) rfl rfl rfl (fun w' hS => (E.Runs.move rfl rfl)) ?_
                  refine E.GH.take (i := 6) rfl (by kernel_rfl) (by kernel_rfl) (by kernel_rfl) (by intro c a d v w h; cases d <;> exact h) rfl rfl rfl (fun w' hS => (E.Runs.move rfl rfl)) ?_
                  refine E.GH.take (i := 7) rfl (by kernel_rfl) (by kernel_rfl) (by kernel_rfl) (by intro c a d v w h; cases d <;> exact h) rfl rfl rfl (fun w' hS => (E.Runs.move rfl rfl)) ?_
                  refine E.GH.take (i := 8) rfl (by kernel_rfl) (by kernel_rfl) (by kernel_rfl) (by intro c a d v w h; cases d <;> exact h) rfl rfl rfl (fun w' hS => (E.Runs.indexAddrA rfl rfl rfl hu27 (by assumption) (by assumption) (by assumption) (by first | rfl | assumption) (show _ = (⟨gR, i * 1, none⟩ : Addr) from by rw [Go.Addr.add_mid, Nat.zero_add]))) ?_
                  refine E.GH.take (i := 9) rfl (by kernel_rfl) (by kernel_rfl) (by kernel_rfl) (by intro c a d v w h; cases d <;> exact h) rfl rfl rfl (fun w' hS => (E.Runs.load rfl rfl hu3 (by first | exact E.keeps hS (E.blkc (by assumption) rfl) (by first | exact E.nen | exact E.nes (by assumption) | exact E.nes (Ne.symm (by assumption))) | exact pw_cell_below (below_step s_L (E.belowG hS)) (by assumption) | exact pw_cell_below (below_step s_lx (E.belowG hS)) (by assumption) | exact pw_cell_below (below_step s_lq (E.belowG hS)) (by assumption) | exact pw_cell_below (below_step s_lw (E.belowG hS)) (by assumption) | exact pw_cell_below (below_step s_lz (E.belowG hS)) (by assumption)))) ?_
                  refine E.GH.take (i := 10) rfl (by kernel_rfl) (by kernel_rfl) (by kernel_rfl) (by intro c a d v w h; cases d <;> exact h) rfl rfl rfl (fun w' hS => (E.Runs.move rfl rfl)) ?_
                  refine E.GH.take (i := 11) rfl (by kernel_rfl) (by kernel_rfl) (by kernel_rfl) (by intro c a d v w h; cases d <;> exact h) rfl rfl rfl (fun w' hS => (E.Runs.move rfl rfl)) ?_
                  refine E.GH.take (i := 12) rfl (by kernel_rfl) (by kernel_rfl) (by kernel_rfl) (by intro c a d v w h; cases d <;> exact h) rfl rfl rfl (fun w' hS => (E.Runs.add rfl rfl rfl (IntWalk.i64_in _ (by omega)))) ?_
                  refine E.GH.take (i := 13) rfl (by kernel_rfl) (by kernel_rfl) (by kernel_rfl) (by intro c a d v w h; cases d <;> exact h) rfl rfl rfl (fun w' hS => (E.Runs.indexAddrA rfl rfl rfl hu27 (by assumption) (by assumption) (by assumption) (by first | rfl | assumption) rfl)) ?_
                  refine E.GH.take (i := 14) rfl (by kernel_rfl) (by kernel_rfl) (by kernel_rfl) (by intro c a d v w h; cases d <;> exact h) rfl rfl rfl (fun w' hS => (E.Runs.load rfl rfl hu3 (by first | exact E.keeps hS (E.blkc (by assumption) rfl) (by first | exact E.nen | exact E.nes (by assumption) | exact E.nes (Ne.symm (by assumption))) | exact pw_cell_below (below_step s_L (E.belowG hS)) (by assumption) | exact pw_cell_below (below_step s_lx (E.belowG hS)) (by assumption) | exact pw_cell_below (below_step s_lq (E.belowG hS)) (by assumption) | exact pw_cell_below (below_step s_lw (E.belowG hS)) (by assumption) | exact pw_cell_below (below_step s_lz (E.belowG hS)) (by assumption)))) ?_
                  refine E.GH.cmp (i := 15) rfl (by kernel_rfl) (by kernel_rfl) (by kernel_rfl) (by intro c a d v w h; cases d <;> exact h) rfl rfl rfl (fun _ h w' hS => (E.Runs.lss rfl rfl rfl h)) (fun h131 => ?_) (fun h131 => ?_)
                  · refine E.GH.take (i := 16) rfl (by kernel_rfl) (by kernel_rfl) (by kernel_rfl) (by intro c a d v w h; cases d <;> exact h) rfl rfl rfl (fun w' hS => (E.Runs.pick_f rfl rfl rfl)) ?_
                    refine E.GH.take (i := 17) rfl (by kernel_rfl) (by kernel_rfl) (by kernel_rfl) (by intro c a d v w h; cases d <;> exact h) rfl rfl rfl (fun w' hS => (E.Runs.move rfl rfl)) ?_
                    refine E.GH.take (i := 18) rfl (by kernel_rfl) (by kernel_rfl) (by kernel_rfl) (by intro c a d v w h; cases d <;> exact h) rfl rfl rfl (fun w' hS => (E.Runs.move rfl rfl)) ?_
                    refine E.GH.take (i := 19) rfl (by kernel_rfl) (by kernel_rfl) (by kernel_rfl) (by intro c a d v w h; cases d <;> exact h) rfl rfl rfl (fun w' hS => (E.Runs.move rfl rfl)) ?_
                    refine E.GH.take (i := 20) rfl (by kernel_rfl) (by kernel_rfl) (by kernel_rfl) (by intro c a d v w h; cases d <;> exact h) rfl rfl rfl (fun w' hS => (E.Runs.indexAddrA rfl rfl rfl hu27 (by assumption) (by assumption) (by assumption) (by first | rfl | assumption) (show _ = (⟨gR, i * 1, none⟩ : Addr) from by rw [Go.Addr.add_mid, Nat.zero_add]))) ?_
                    refine E.GH.take (i := 21) rfl (by kernel_rfl) (by kernel_rfl) (by kernel_rfl) (by intro c a d v w h; cases d <;> exact h) rfl rfl rfl (fun w' hS => (E.Runs.load rfl rfl hu3 (by first | exact E.keeps hS (E.blkc (by assumption) rfl) (by first | exact E.nen | exact E.nes (by assumption) | exact E.nes (Ne.symm (by assumption))) | exact pw_cell_below (below_step s_L (E.belowG hS)) (by assumption) | exact pw_cell_below (below_step s_lx (E.belowG hS)) (by assumption) | exact pw_cell_below (below_step s_lq (E.belowG hS)) (by assumption) | exact pw_cell_below (below_step s_lw (E.belowG hS)) (by assumption) | exact pw_cell_below (below_step s_lz (E.belowG hS)) (by assumption)))) ?_
                    refine E.GH.take (i := 22) rfl (by kernel_rfl) (by kernel_rfl) (by kernel_rfl) (by intro c a d v w h; cases d <;> exact h) rfl rfl rfl (fun w' hS => (E.Runs.fieldAddr rfl rfl hu43 rfl (by assumption) rfl)) ?_
                    refine E.GH.take (i := 23) rfl (by kernel_rfl) (by kernel_rfl) (by kernel_rfl) (by intro c a d v w h; cases d <;> exact h) rfl rfl rfl (fun w' hS => (E.Runs.load1 rfl rfl hu27 rfl (by first | exact E.keeps hS (E.blkc (by assumption) rfl) (by first | exact E.nen | exact E.nes (by assumption) | exact E.nes (Ne.symm (by assumption))) | exact pw_cell_below (below_step s_L (E.belowG hS)) (by assumption) | exact pw_cell_below (below_step s_lx (E.belowG hS)) (by assumption) | exact pw_cell_below (below_step s_lq (E.belowG hS)) (by assumption) | exact pw_cell_below (below_step s_lw (E.belowG hS)) (by assumption) | exact pw_cell_below (below_step s_lz (E.belowG hS)) (by assumption)))) ?_
                    refine E.GH.take (i := 24) rfl (by kernel_rfl) (by kernel_rfl) (by kernel_rfl) (by intro c a d v w h; cases d <;> exact h) rfl rfl rfl (fun w' hS => (E.Runs.len rfl rfl hu27)) ?_
                    refine E.GH.cmp (i := 25) rfl (by kernel_rfl) (by kernel_rfl) (by kernel_rfl) (by intro c a d v w h; cases d <;> exact h) rfl rfl rfl (fun _ h w' hS => (E.Runs.lss rfl rfl rfl h)) (fun h141 => ?_) (fun h141 => ?_)
                    · refine E.GH.take (i := 26) rfl (by kernel_rfl) (by kernel_rfl) (by kernel_rfl) (by intro c a d v w h; cases d <;> exact h) rfl rfl rfl (fun w' hS => (E.Runs.pick_t rfl rfl rfl)) ?_
                      refine E.GH.take (i := 27) rfl (by kernel_rfl) (by kernel_rfl) (by kernel_rfl) (by intro c a d v w h; cases d <;> exact h) rfl rfl rfl (fun w' hS => (E.Runs.move rfl rfl)) ?_
                      refine E.GH.take (i := 28) rfl (by kernel_rfl) (by kernel_rfl) (by kernel_rfl) (by intro c a d v w h; cases d <;> exact h) rfl rfl rfl (fun w' hS => (E.Runs.loads (cs := [.int .i64 M.fl, .int .i64 M.fh, .int .i64 M.al, .int .i64 M.ah, .int .i64 M.nl, .int .i64 M.nh, .int .i64 M.ra, .slice A M.gs.length c, .int .i64 M.wr]) rfl rfl hu26 rfl info26s (blk_cells (blk_grown s_b2 hS E.nen)))) ?_
                      refine E.GH.take (i := 29) rfl (by kernel_rfl) (by kernel_rfl) (by kernel_rfl) (by intro c a d v w h; cases d <;> exact h) rfl rfl rfl (fun w' hS => (E.Runs.loads (cs := [.int .i64 b, .slice Ad l.length cd, .slice Ax k.length cx]) rfl rfl hu43 rfl info43s (blk_cells (blk_grown s_b3 hS E.nen)))) ?_
                      refine E.GH.take (i := 30) rfl (by kernel_rfl) (by kernel_rfl) (by kernel_rfl) (by intro c a d v w h; cases d <;> exact h) rfl rfl rfl (fun w' hS => (E.Runs.move rfl rfl)) ?_
                      refine E.GH.one (i := 31) (by kernel_rfl) rfl ?_
                      refine E.GO.st rfl rfl rfl (E.ST.call rfl ent25 (E.evc rfl (E.evc rfl (E.evc rfl E.evn))) ((shown_any M A Ad Ax A109 c cd k.length cx c109 (chgL M b l).length b l ((chgL M b l).set i (y + 1)) _ false (iff_of_false Bool.false_ne_true hlat) hV0 hdb hdd (Kd.C_below hr L) (Kd.C_below hd L) hyl.symm (Kd.C_below C109 lz) (by omega) (by omega)).mono ?_))
                      rintro e w147 ⟨rfl, l147⟩
                      refine ⟨_, rfl, hh.trans (E.gbB l147), ?_⟩
                      replace hh := hh.trans (E.gbB l147)
                      replace b2 := blk_below b2 l147
                      replace b3 := blk_below b3 l147
                      replace r109 := Kd.R_below r109 l147
                      replace L := below_step L l147
                      replace lx := below_step lx l147
                      replace lq := below_step lq l147
                      replace lw := below_step lw l147
                      replace lz := below_step lz l147
                      refine E.GH.take (i := 32) rfl (by kernel_rfl) (by kernel_rfl) (by kernel_rfl) (by intro c a d v w h; cases d <;> exact h) rfl rfl rfl (fun w' hS => (E.Runs.pick_t rfl rfl rfl)) ?_
                      refine E.GH.done (by kernel_rfl) ?_
                      refine E.QG.code ?_
                      refine E.CG.cond_f rfl ?_
                      refine E.CG.skip ?_
                      refine E.QG.block_normal ?_
                      refine E.QG.code ?_
                      refine E.CG.list ?_
                      refine E.GL.run rfl rfl rfl (E.Runs.move rfl rfl) ?_
                      refine E.GL.run rfl rfl rfl (E.Runs.add rfl rfl rfl (IntWalk.i64_in _ (by omega))) ?_
                      refine E.GL.run rfl rfl rfl (E.Runs.assign rfl rfl) ?_
                      refine E.GL.done ?_
                      exact E.QG.round (i + 1) (E.subc rfl (E.subc rfl (E.subc rfl (E.subc rfl E.subn)))) ⟨by omega, lq⟩ (by omega)
                    · refine E.GH.take (i := 26) rfl (by kernel_rfl) (by kernel_rfl) (by kernel_rfl) (by intro c a d v w h; cases d <;> exact h) rfl rfl rfl (fun w' hS => (E.Runs.pick_t rfl rfl rfl)) ?_
                      refine E.GH.take (i := 27) rfl (by kernel_rfl) (by kernel_rfl) (by kernel_rfl) (by intro c a d v w h; cases d <;> exact h) rfl rfl rfl (fun w' hS => (E.Runs.move rfl rfl)) ?_
                      refine E.GH.pass (i := 28) rfl (by kernel_rfl) (by kernel_rfl) (by kernel_rfl) (by intro c a d v w h; cases d <;> exact h) rfl rfl rfl ?_
                      refine E.GH.pass (i := 29) rfl (by kernel_rfl) (by kernel_rfl) (by kernel_rfl) (by intro c a d v w h; cases d <;> exact h) rfl rfl rfl ?_
                      refine E.GH.pass (i := 30) rfl (by kernel_rfl) (by kernel_rfl) (by kernel_rfl) (by intro c a d v w h; cases d <;> exact h) rfl rfl rfl ?_
                      refine E.GH.pass (i := 31) rfl (by kernel_rfl) (by kernel_rfl) (by kernel_rfl) (by intro c a d v w h; cases d <;> exact h) rfl rfl rfl ?_
                      refine E.GH.take (i := 32) rfl (by kernel_rfl) (by kernel_rfl) (by kernel_rfl) (by intro c a d v w h; cases d <;> exact h) rfl rfl rfl (fun w' hS => (E.Runs.pick_f rfl rfl rfl)) ?_
                      refine E.GH.done (by kernel_rfl) ?_
                      refine E.QG.code ?_
                      refine E.CG.cond_f rfl ?_
                      refine E.CG.skip ?_
                      refine E.QG.block_normal ?_
                      refine E.QG.code ?_
                      refine E.CG.list ?_
                      refine E.GL.run rfl rfl rfl (E.Runs.move rfl rfl) ?_
                      refine E.GL.run rfl rfl rfl (E.Runs.add rfl rfl rfl (IntWalk.i64_in _ (by omega))) ?_
                      refine E.GL.run rfl rfl rfl (E.Runs.assign rfl rfl) ?_
                      refine E.GL.done ?_
                      exact E.QG.round (i + 1) (E.subc rfl (E.subc rfl (E.subc rfl (E.subc rfl E.subn)))) ⟨by omega, lq⟩ (by omega)
                  · refine E.GH.take (i := 16) rfl (by kernel_rfl) (by kernel_rfl) (by kernel_rfl) (by intro c a d v w h; cases d <;> exact h) rfl rfl rfl (fun w' hS => (E.Runs.pick_f rfl rfl rfl)) ?_
                    refine E.GH.take (i := 17) rfl (by kernel_rfl) (by kernel_rfl) (by kernel_rfl) (by intro c a d v w h; cases d <;> exact h) rfl rfl rfl (fun w' hS => (E.Runs.move rfl rfl)) ?_
                    refine E.GH.pass (i := 18) rfl (by kernel_rfl) (by kernel_rfl) (by kernel_rfl) (by intro c a d v w h; cases d <;> exact h) rfl rfl rfl ?_
                    refine E.GH.pass (i := 19) rfl (by kernel_rfl) (by kernel_rfl) (by kernel_rfl) (by intro c a d v w h; cases d <;> exact h) rfl rfl rfl ?_
                    refine E.GH.pass (i := 20) rfl (by kernel_rfl) (by kernel_rfl) (by kernel_rfl) (by intro c a d v w h; cases d <;> exact h) rfl rfl rfl ?_
                    refine E.GH.pass (i := 21) rfl (by kernel_rfl) (by kernel_rfl) (by kernel_rfl) (by intro c a d v w h; cases d <;> exact h) rfl rfl rfl ?_
                    refine E.GH.pass (i := 22) rfl (by kernel_rfl) (by kernel_rfl) (by kernel_rfl) (by intro c a d v w h; cases d <;> exact h) rfl rfl rfl ?_
                    refine E.GH.pass (i := 23) rfl (by kernel_rfl) (by kernel_rfl) (by kernel_rfl) (by intro c a d v w h; cases d <;> exact h) rfl rfl rfl ?_
                    refine E.GH.pass (i := 24) rfl (by kernel_rfl) (by kernel_rfl) (by kernel_rfl) (by intro c a d v w h; cases d <;> exact h) rfl rfl rfl ?_
                    refine E.GH.pass (i := 25) rfl (by kernel_rfl) (by kernel_rfl) (by kernel_rfl) (by intro c a d v w h; cases d <;> exact h) rfl rfl rfl ?_
                    refine E.GH.take (i := 26) rfl (by kernel_rfl) (by kernel_rfl) (by kernel_rfl) (by intro c a d v w h; cases d <;> exact h) rfl rfl rfl (fun w' hS => (E.Runs.pick_f rfl rfl rfl)) ?_
                    refine E.GH.take (i := 27) rfl (by kernel_rfl) (by kernel_rfl) (by kernel_rfl) (by intro c a d v w h; cases d <;> exact h) rfl rfl rfl (fun w' hS => (E.Runs.move rfl rfl)) ?_
                    refine E.GH.pass (i := 28) rfl (by kernel_rfl) (by kernel_rfl) (by kernel_rfl) (by intro c a d v w h; cases d <;> exact h) rfl rfl rfl ?_
                    refine E.GH.pass (i := 29) rfl (by kernel_rfl) (by kernel_rfl) (by kernel_rfl) (by intro c a d v w h; cases d <;> exact h) rfl rfl rfl ?_
                    refine E.GH.pass (i := 30) rfl (by kernel_rfl) (by kernel_rfl) (by kernel_rfl) (by intro c a d v w h; cases d <;> exact h) rfl rfl rfl ?_
                    refine E.GH.pass (i := 31) rfl (by kernel_rfl) (by kernel_rfl) (by kernel_rfl) (by intro c a d v w h; cases d <;> exact h) rfl rfl rfl ?_
                    refine E.GH.take (i := 32) rfl (by kernel_rfl) (by kernel_rfl) (by kernel_rfl) (by intro c a d v w h; cases d <;> exact h) rfl rfl rfl (fun w' hS => (E.Runs.pick_f rfl rfl rfl)) ?_
                    refine E.GH.done (by kernel_rfl) ?_
                    refine E.QG.code ?_
                    refine E.CG.cond_f rfl ?_
                    refine E.CG.skip ?_
                    refine E.QG.block_normal ?_
                    refine E.QG.code ?_
                    refine E.CG.list ?_
                    refine E.GL.run rfl rfl rfl (E.Runs.move rfl rfl) ?_
                    refine E.GL.run rfl rfl rfl (E.Runs.add rfl rfl rfl (IntWalk.i64_in _ (by omega))) ?_
                    refine E.GL.run rfl rfl rfl (E.Runs.assign rfl rfl) ?_
                    refine E.GL.done ?_
                    exact E.QG.round (i + 1) (E.subc rfl (E.subc rfl (E.subc rfl (E.subc rfl E.subn)))) ⟨by omega, lq⟩ (by omega)
              · refine E.GL.done ?_
                refine E.QG.code ?_
                refine E.CG.cond_f rfl ?_
                refine E.CG.exit ?_
                refine E.QG.pass_exit ?_
                refine E.QG.pass_exit ?_
                refine E.QG.block_here ?_
                refine E.QG.code ?_
                refine E.CG.seq ?_
                refine E.CG.list ?_
                refine E.GL.st rfl rfl rfl (E.ST.call rfl ent13 E.evn ((works_calls _).mono ?_))
                rintro e w149 ⟨rfl, l149⟩
                refine ⟨_, rfl, ?_⟩
                replace b2 := blk_below b2 l149
                replace b3 := blk_below b3 l149
                replace L := below_step L l149
                replace lx := below_step lx l149
                replace lq := below_step lq l149
                refine E.GL.run rfl rfl rfl (E.Runs.assign rfl rfl) ?_
                refine E.GL.done ?_
                refine E.QG.code ?_
                refine E.CG.ret ?_
                first | exact E.QG.result rfl rfl ⟨rfl, L⟩ | exact absurd habs id | fail
  · refine E.GL.st rfl rfl rfl (E.ST.call rfl ent18 (E.evc rfl E.evn) ((ready_calls M A c _ false (iff_of_false Bool.false_ne_true h11) (Kd.C_below hr L)).mono ?_))
    rintro e w11 ⟨rfl, l11⟩
    refine ⟨_, rfl, ?_⟩
    replace b2 := blk_below b2 l11
    replace b3 := blk_below b3 l11
    replace L := below_step L l11
    refine E.GL.run rfl rfl rfl (E.Runs.not rfl rfl) ?_
    refine E.GL.run rfl rfl rfl (E.Runs.move rfl rfl) ?_
    refine E.GL.skip rfl rfl rfl ?_
    refine E.GL.skip rfl rfl rfl ?_
    refine E.GL.skip rfl rfl rfl ?_
    refine E.GL.skip rfl rfl rfl ?_
    refine E.GL.skip rfl rfl rfl ?_
    refine E.GL.skip rfl rfl rfl ?_
    refine E.GL.skip rfl rfl rfl ?_
    refine E.GL.run rfl rfl rfl (E.Runs.pick_t rfl rfl rfl) ?_
    refine E.GL.run rfl rfl rfl (E.Runs.move rfl rfl) ?_
    refine E.GL.skip rfl rfl rfl ?_
    refine E.GL.skip rfl rfl rfl ?_
    refine E.GL.skip rfl rfl rfl ?_
    refine E.GL.skip rfl rfl rfl ?_
    refine E.GL.run rfl rfl rfl (E.Runs.pick_t rfl rfl rfl) ?_
    refine E.GL.run rfl rfl rfl (E.Runs.move rfl rfl) ?_
    refine E.GL.skip rfl rfl rfl ?_
    refine E.GL.skip rfl rfl rfl ?_
    refine E.GL.skip rfl rfl rfl ?_
    refine E.GL.skip rfl rfl rfl ?_
    refine E.GL.run rfl rfl rfl (E.Runs.pick_t rfl rfl rfl) ?_
    refine E.GL.done ?_
    refine E.QG.code ?_
    refine E.CG.cond_t rfl ?_
    refine E.CG.seq ?_
    refine E.CG.list ?_
    refine E.GL.st rfl rfl rfl (E.ST.call rfl ent13 E.evn ((works_calls _).mono ?_))
    rintro e w34 ⟨rfl, l34⟩
    refine ⟨_, rfl, ?_⟩
    replace b2 := blk_below b2 l34
    replace b3 := blk_below b3 l34
    replace L := below_step L l34
    refine E.GL.run rfl rfl rfl (E.Runs.assign rfl rfl) ?_
    refine E.GL.done ?_
    refine E.QG.code ?_
    refine E.CG.ret ?_
    refine E.QG.pass_ret ?_
    first | exact E.QG.result rfl rfl ⟨rfl, L⟩ | exact absurd habs id | fail

end Go.Proofs.Ytbajpjnloikpdaa.T
