/- LampHours: the walks of the document's At, Keeps and Until, and of the law. -/
import Derived.Test.YtbajpjnloikpdaaP13
namespace Go.Proofs.Ytbajpjnloikpdaa.T
open Go.RowKit Go.Proofs.YtbajpjnloikpdaaW.PrintWords Go.Proofs.YtbajpjnloikpdaaW.PrintMore
open Go.Proofs.Ytbajpjnloikpdaa.P
set_option linter.unusedVariables false
set_option linter.unusedSimpArgs false

theorem lastT_low {so : Int → Prop} {f bd : Int} (h : bd < f) : lastT so f bd = -1 := lastT_no (fun k => by omega)
theorem lastT_up {so : Int → Prop} {f b : Int} (h0 : 0 ≤ f) (h : f ≤ b) (k : ∀ y, f ≤ y → y ≤ b → so y) : lastT so f b = b := (last_full h0 h).mpr k
theorem lastT_keep {so : Int → Prop} {f b : Int} (h0 : 0 ≤ f) (h : f ≤ b) (k : ¬ ∀ y, f ≤ y → y ≤ b → so y) : lastT so f b = lastT so f (b - 1) := by
  rcases lastT_spec (so := so) (f := f) (bd := b) with ⟨e, q⟩ | ⟨q1, q2, q3, q4⟩
  · rw [e]
    exact (lastT_no (fun _ => q h)).symm
  · have hne : lastT so f b ≠ b := fun e => k (by rw [e] at q3; exact q3)
    exact (lastT_val q1 (by omega) h0 (fun n hn => q3 _ (by omega) (by omega)) (fun hlt => q4 (by omega))).symm
theorem full_is {a b f u : Int} {t : List Ln} : cntP (isKs a b f u) t = t.length ↔ ∀ y, f ≤ y → y ≤ u → keepsT a b t y = 1 := by
  rw [cntP_full]
  exact ⟨fun k y h1 h2 => keepsT_one.mpr fun x hx => k x hx y h1 h2, fun k x hx y h1 h2 => keepsT_one.mp (k y h1 h2) x hx⟩
theorem sure_up {a b f : Int} {t : List Ln} {i : Nat} (h0 : 0 ≤ f) (k : cntP (isKs a b f (f + i)) t = t.length) : sureT a b f (f + ((i + 1 : Nat) : Int) - 1) t = f + i := by
  rw [show f + ((i + 1 : Nat) : Int) - 1 = f + (i : Int) by omega]
  exact lastT_up h0 (by omega) (full_is.mp k)
theorem sure_keep {a b f : Int} {t : List Ln} {i : Nat} (h0 : 0 ≤ f) (k : ¬ cntP (isKs a b f (f + i)) t = t.length) : sureT a b f (f + ((i + 1 : Nat) : Int) - 1) t = sureT a b f (f + i - 1) t := by
  rw [show f + ((i + 1 : Nat) : Int) - 1 = f + (i : Int) by omega]
  exact lastT_keep h0 (by omega) (fun q => k (full_is.mpr q))
theorem cnt_some {p : Ln → Prop} {t : List Ln} (h : 0 < cntP p t) : ∃ x ∈ t, p x := by
  apply Classical.byContradiction
  intro k
  have := cntP_zero.mpr (fun x hx hp => k ⟨x, hx, hp⟩)
  omega
theorem may_up {a b f : Int} {t : List Ln} {i : Nat} (h0 : 0 ≤ f) (k : 0 < cntP (isKs a b f (f + i)) t) : mayT a b f (f + ((i + 1 : Nat) : Int) - 1) t = f + i := by
  rw [show f + ((i + 1 : Nat) : Int) - 1 = f + (i : Int) by omega]
  obtain ⟨x, hx, hk⟩ := cnt_some k
  obtain ⟨h1, h2, h3⟩ := may_spec (a := a) (b := b) (f := f) (ra := f + i) t
  have e := lastT_up (so := isK a b x) h0 (show f ≤ f + i by omega) hk
  have := h2 x hx
  rcases h3 with h3 | ⟨y, hy, e2⟩
  · omega
  · have := lastT_le (so := isK a b y) (f := f) (bd := f + i)
    omega
theorem may_keep {a b f : Int} {t : List Ln} {i : Nat} (h0 : 0 ≤ f) (k : ¬ 0 < cntP (isKs a b f (f + i)) t) : mayT a b f (f + ((i + 1 : Nat) : Int) - 1) t = mayT a b f (f + i - 1) t := by
  rw [show f + ((i + 1 : Nat) : Int) - 1 = f + (i : Int) by omega]
  have hz := cntP_zero.mp (show cntP (isKs a b f (f + i)) t = 0 by omega)
  have : ∀ (l : List Ln), (∀ x ∈ l, lastT (isK a b x) f (f + i) = lastT (isK a b x) f (f + i - 1)) → ∀ m, l.foldl (fun m x => mx m (lastT (isK a b x) f (f + i))) m = l.foldl (fun m x => mx m (lastT (isK a b x) f (f + i - 1))) m := by
    intro l
    induction l with
    | nil => intro _ _; rfl
    | cons y l ih =>
      intro hl m
      rw [List.foldl_cons, List.foldl_cons, hl y List.mem_cons_self]
      exact ih (fun x hx => hl x (List.mem_cons_of_mem _ hx)) _
  exact this t (fun x hx => lastT_keep h0 (by omega) (hz x hx)) (-1)
theorem sure_low {a b f u : Int} {t : List Ln} (h : u < f) : sureT a b f u t = -1 := lastT_low h
theorem may_low {a b f u : Int} {t : List Ln} (h : u < f) : mayT a b f u t = -1 := by
  obtain ⟨h1, h2, h3⟩ := may_spec (a := a) (b := b) (f := f) (ra := u) t
  rcases h3 with h3 | ⟨y, hy, e2⟩
  · exact h3
  · rw [e2, lastT_low h]
theorem until_end {a b f ra : Int} {t : List Ln} {i : Nat} (h : i = 0 ∨ f + i ≤ ra + 1) (k : ¬ f + i ≤ ra) : sureT a b f (f + i - 1) t = sureT a b f ra t ∧ mayT a b f (f + i - 1) t = mayT a b f ra t := by
  by_cases e : f + (i : Int) = ra + 1
  · rw [show f + (i : Int) - 1 = ra by omega]
    exact ⟨rfl, rfl⟩
  · have h1 : f + (i : Int) - 1 < f := by omega
    have h2 : ra < f := by omega
    rw [sure_low h1, sure_low h2, may_low h1, may_low h2]
    exact ⟨rfl, rfl⟩
theorem keepsT_cnt {a b h : Int} {t : List Ln} : cntP (isKs a b h h) t = cntK a b t h := by
  unfold cntP cntK
  congr 1
  apply List.filter_congr
  intro x _
  have : isKs a b h h x ↔ isK a b x h := ⟨fun k => k h (Int.le_refl _) (Int.le_refl _), fun k y h1 h2 => by
    obtain rfl : y = h := by omega
    exact k⟩
  simp [this]
set_option maxRecDepth 100000 in
set_option maxHeartbeats 8000000 in

theorem known_calls (M : Lm) (A : Option Addr) (c : Nat) (h : Int) (w : World) (hr : Kd.C k64 w A M.gs.length M.gs) (hn : M.gs.length ≤ 1000000) :
    Calls Try.prog 59 #[lv M A c, .int .i64 h] w fun e w' => ∃ v, e = .returned (.tuple #[v, .int .i64 (askE M h)]) ∧ Kd.R kL 54 w' w.heap.size (fun _ => True) v (askT M h) ∧ Below w.heap.size w w' := by
  have hu3 := Try.underlying3
  have hu26 := Try.underlying26
  have hu46 := Try.underlying46
  refine E.enter (N := 19) Try.func59 rfl Try.ntmps59 (args := [lv M A c, .int .i64 h]) (by simp) ?_
  have L := Below.refl w.heap.size w
  refine E.CG.seq ?_
  refine E.CG.list ?_
  refine E.GL.st rfl rfl rfl (E.ST.box rfl rfl fun g2 w2 e2 b2 l2 => ?_)
  have h2_L : w.heap.size ≤ g2 := by rw [e2]; exact L.size
  replace L := below_step L l2
  refine E.GL.run rfl rfl rfl (E.Runs.assign rfl rfl) ?_
  refine E.GL.run rfl rfl rfl (E.Runs.assign rfl rfl) ?_
  refine E.GL.done ?_
  refine E.QG.code ?_
  refine E.CG.seq ?_
  refine E.CG.seq ?_
  refine E.CG.list ?_
  refine E.GL.run rfl rfl rfl (E.Runs.loads (cs := [.int .i64 M.fl, .int .i64 M.fh, .int .i64 M.al, .int .i64 M.ah, .int .i64 M.nl, .int .i64 M.nh, .int .i64 M.ra, .slice A M.gs.length c, .int .i64 M.wr]) rfl rfl hu26 rfl info26s (blk_cells b2)) ?_
  refine E.GL.st rfl rfl rfl (E.ST.call rfl ent40 (E.evc rfl E.evn) ((check_r M A c _ (Kd.C_below hr L) hn).mono ?_))
  rintro e w8 ⟨rfl, l8⟩
  refine ⟨_, rfl, ?_⟩
  replace b2 := blk_below b2 l8
  replace L := below_step L l8
  refine E.GL.cmpn rfl rfl rfl (fun _ h => (E.Runs.neq rfl rfl rfl h)) (fun h9 => ?_) (fun h9 => ?_)
  · have hV := fun k => h9 ((checkE_ok M).mpr k)
    refine E.GL.done ?_
    refine E.QG.code ?_
    refine E.CG.cond_t rfl ?_
    refine E.CG.seq ?_
    refine E.CG.list ?_
    refine E.GL.run rfl rfl rfl (E.Runs.assign rfl rfl) ?_
    refine E.GL.run rfl rfl rfl (E.Runs.assign rfl rfl) ?_
    refine E.GL.done ?_
    refine E.QG.code ?_
    refine E.CG.ret ?_
    refine E.QG.pass_ret ?_
    exact E.QG.result2 rfl rfl rfl ⟨_, by rw [askE_90 hV], by rw [askT_no (by rw [askE_90 hV]; decide)]; exact Kd.R_nil _ _ _ _ _, L⟩
  · have hV := (checkE_ok M).mp (by omega)
    refine E.GL.done ?_
    refine E.QG.code ?_
    refine E.CG.cond_f rfl ?_
    refine E.CG.skip ?_
    refine E.QG.code ?_
    refine E.CG.seq ?_
    refine E.CG.seq ?_
    refine E.CG.list ?_
    refine E.GL.run rfl rfl rfl (E.Runs.move rfl rfl) ?_
    by_cases h11 : inR h 0 40
    · refine E.GL.st rfl rfl rfl (E.ST.call rfl ent56 (E.evc rfl (E.evc rfl (E.evc rfl E.evn))) ((within_r h 0 40 true (iff_of_true rfl h11) _).mono ?_))
      rintro e w11 ⟨rfl, l11⟩
      refine ⟨_, rfl, ?_⟩
      replace b2 := blk_below b2 l11
      replace L := below_step L l11
      refine E.GL.run rfl rfl rfl (E.Runs.not rfl rfl) ?_
      refine E.GL.done ?_
      refine E.QG.code ?_
      refine E.CG.cond_f rfl ?_
      refine E.CG.skip ?_
      refine E.QG.code ?_
      refine E.CG.seq ?_
      refine E.CG.list ?_
      refine E.GL.run rfl rfl rfl (E.Runs.loads (cs := [.int .i64 M.fl, .int .i64 M.fh, .int .i64 M.al, .int .i64 M.ah, .int .i64 M.nl, .int .i64 M.nh, .int .i64 M.ra, .slice A M.gs.length c, .int .i64 M.wr]) rfl rfl hu26 rfl info26s (blk_cells b2)) ?_
      have hs14 := L.size
      refine E.GL.st rfl rfl rfl (E.ST.call rfl ent62 (E.evc rfl E.evn) ((truths_calls M A c _ hV (Kd.C_below hr L)).mono ?_))
      rintro e w14 ⟨v14, rfl, R14, l14⟩
      refine ⟨_, rfl, ?_⟩
      replace b2 := blk_below b2 l14
      replace L := below_step L l14
      replace R14 := Kd.R_lower R14 hs14
      obtain ⟨A14, c14, hv14⟩ := Kd.R_slice R14
      subst hv14
      refine E.GL.run rfl rfl rfl (E.Runs.assign rfl rfl) ?_
      refine E.GL.done ?_
      refine E.QG.code ?_
      refine E.CG.seq ?_
      refine E.CG.seq ?_
      refine E.CG.list ?_
      refine E.GL.run rfl rfl rfl (E.Runs.move rfl rfl) ?_
      refine E.GL.run rfl rfl rfl (E.Runs.len rfl rfl hu46) ?_
      refine E.GL.cmp rfl rfl rfl (fun _ h => (E.Runs.eql rfl rfl rfl h)) (fun h17 => ?_) (fun h17 => ?_)
      · refine E.GL.done ?_
        refine E.QG.code ?_
        refine E.CG.cond_t rfl ?_
        refine E.CG.seq ?_
        refine E.CG.list ?_
        refine E.GL.run rfl rfl rfl (E.Runs.assign rfl rfl) ?_
        refine E.GL.run rfl rfl rfl (E.Runs.assign rfl rfl) ?_
        refine E.GL.done ?_
        refine E.QG.code ?_
        refine E.CG.ret ?_
        refine E.QG.pass_ret ?_
        exact E.QG.result2 rfl rfl rfl ⟨_, by rw [askE_3 hV h11 (by omega)], by rw [askT_no (by rw [askE_3 hV h11 (by omega)]; decide)]; exact Kd.R_nil _ _ _ _ _, L⟩
      · refine E.GL.done ?_
        refine E.QG.code ?_
        refine E.CG.cond_f rfl ?_
        refine E.CG.skip ?_
        refine E.QG.code ?_
        refine E.CG.seq ?_
        refine E.CG.list ?_
        refine E.GL.run rfl rfl rfl (E.Runs.move rfl rfl) ?_
        refine E.GL.run rfl rfl rfl (E.Runs.assign rfl rfl) ?_
        refine E.GL.run rfl rfl rfl (E.Runs.assign rfl rfl) ?_
        refine E.GL.done ?_
        refine E.QG.code ?_
        refine E.CG.ret ?_
        exact E.QG.result2 rfl rfl rfl ⟨_, by rw [askE_0 hV h11 (by omega)], by rw [askT_0 (askE_0 hV h11 (by omega))]; exact R14, L⟩
    · refine E.GL.st rfl rfl rfl (E.ST.call rfl ent56 (E.evc rfl (E.evc rfl (E.evc rfl E.evn))) ((within_r h 0 40 false (iff_of_false Bool.false_ne_true h11) _).mono ?_))
      rintro e w11 ⟨rfl, l11⟩
      refine ⟨_, rfl, ?_⟩
      replace b2 := blk_below b2 l11
      replace L := below_step L l11
      refine E.GL.run rfl rfl rfl (E.Runs.not rfl rfl) ?_
      refine E.GL.done ?_
      refine E.QG.code ?_
      refine E.CG.cond_t rfl ?_
      refine E.CG.seq ?_
      refine E.CG.list ?_
      refine E.GL.run rfl rfl rfl (E.Runs.assign rfl rfl) ?_
      refine E.GL.run rfl rfl rfl (E.Runs.assign rfl rfl) ?_
      refine E.GL.done ?_
      refine E.QG.code ?_
      refine E.CG.ret ?_
      refine E.QG.pass_ret ?_
      exact E.QG.result2 rfl rfl rfl ⟨_, by rw [askE_1 hV h11], by rw [askT_no (by rw [askE_1 hV h11]; decide)]; exact Kd.R_nil _ _ _ _ _, L⟩

set_option maxRecDepth 100000 in
set_option maxHeartbeats 8000000 in

theorem refkeeps_calls (M : Lm) (A : Option Addr) (c : Nat) (h : Int) (w : World) (hr : Kd.C k64 w A M.gs.length M.gs) (hn : M.gs.length ≤ 1000000) :
    Calls Try.prog 28 #[lv M A c, .int .i64 h] w fun e w' => e = .returned (.tuple #[.int .i64 (keepsV M h), .int .i64 (askE M h)]) ∧ Below w.heap.size w w' := by
  have hu3 := Try.underlying3
  have hu23 := Try.underlying23
  have hu26 := Try.underlying26
  have hu46 := Try.underlying46
  obtain ⟨z3, o3⟩ := info_some info3s (by decide)
  obtain ⟨z23, o23⟩ := info_some info23s (by decide)
  refine E.enter (N := 28) Try.func28 rfl Try.ntmps28 (args := [lv M A c, .int .i64 h]) (by simp) ?_
  have L := Below.refl w.heap.size w
  refine E.CG.seq ?_
  refine E.CG.list ?_
  refine E.GL.st rfl rfl rfl (E.ST.box rfl rfl fun g2 w2 e2 b2 l2 => ?_)
  have h2_L : w.heap.size ≤ g2 := by rw [e2]; exact L.size
  replace L := below_step L l2
  refine E.GL.run rfl rfl rfl (E.Runs.assign rfl rfl) ?_
  refine E.GL.run rfl rfl rfl (E.Runs.assign rfl rfl) ?_
  refine E.GL.done ?_
  refine E.QG.code ?_
  refine E.CG.seq ?_
  refine E.CG.list ?_
  refine E.GL.run rfl rfl rfl (E.Runs.loads (cs := [.int .i64 M.fl, .int .i64 M.fh, .int .i64 M.al, .int .i64 M.ah, .int .i64 M.nl, .int .i64 M.nh, .int .i64 M.ra, .slice A M.gs.length c, .int .i64 M.wr]) rfl rfl hu26 rfl info26s (blk_cells b2)) ?_
  refine E.GL.run rfl rfl rfl (E.Runs.move rfl rfl) ?_
  refine E.GL.st rfl rfl rfl (E.ST.call rfl ent59 (E.evc rfl (E.evc rfl E.evn)) ((known_calls M A c h _ (Kd.C_below hr L) hn).mono ?_))
  rintro e w11 ⟨v11, rfl, R11, l11⟩
  refine ⟨_, rfl, ?_⟩
  replace b2 := blk_below b2 l11
  replace L := below_step L l11
  refine E.GL.run rfl rfl rfl (E.Runs.move rfl rfl) ?_
  refine E.GL.run rfl rfl rfl (E.Runs.extract rfl rfl rfl) ?_
  refine E.GL.run rfl rfl rfl (E.Runs.extract rfl rfl rfl) ?_
  refine E.GL.run rfl rfl rfl (E.Runs.assign rfl rfl) ?_
  refine E.GL.run rfl rfl rfl (E.Runs.assign rfl rfl) ?_
  refine E.GL.done ?_
  refine E.QG.code ?_
  refine E.CG.seq ?_
  refine E.CG.seq ?_
  refine E.CG.list ?_
  refine E.GL.run rfl rfl rfl (E.Runs.move rfl rfl) ?_
  refine E.GL.cmpn rfl rfl rfl (fun _ h => (E.Runs.neq rfl rfl rfl h)) (fun h15 => ?_) (fun h15 => ?_)
  · refine E.GL.done ?_
    refine E.QG.code ?_
    refine E.CG.cond_t rfl ?_
    refine E.CG.seq ?_
    refine E.CG.list ?_
    refine E.GL.run rfl rfl rfl (E.Runs.move rfl rfl) ?_
    refine E.GL.run rfl rfl rfl (E.Runs.assign rfl rfl) ?_
    refine E.GL.run rfl rfl rfl (E.Runs.assign rfl rfl) ?_
    refine E.GL.done ?_
    refine E.QG.code ?_
    refine E.CG.ret ?_
    refine E.QG.pass_ret ?_
    exact E.QG.result2 rfl rfl rfl ⟨by unfold keepsV; rw [if_neg h15]; rfl, L⟩
  · obtain ⟨hV, hh, hpos⟩ := askE_ok (M := M) (h := h) (by omega)
    rw [askT_0 (by omega)] at R11
    obtain ⟨A11, c11, hv11⟩ := Kd.R_slice R11
    subst hv11
    obtain ⟨_, _, C11⟩ := Kd.R_reads' R11
    obtain ⟨hh0, hh1⟩ := hh
    have hf := truths_few hV.1
    have hok : ∀ x ∈ truths M, PtOk x := fun x hx => truths_ok hV.1 hx
    refine E.GL.done ?_
    refine E.QG.code ?_
    refine E.CG.cond_f rfl ?_
    refine E.CG.skip ?_
    refine E.QG.code ?_
    refine E.CG.seq ?_
    refine E.CG.seq ?_
    refine E.CG.list ?_
    refine E.GL.run rfl rfl rfl (E.Runs.loads (cs := [.int .i64 M.fl, .int .i64 M.fh, .int .i64 M.al, .int .i64 M.ah, .int .i64 M.nl, .int .i64 M.nh, .int .i64 M.ra, .slice A M.gs.length c, .int .i64 M.wr]) rfl rfl hu26 rfl info26s (blk_cells b2)) ?_
    refine E.GL.run rfl rfl rfl (E.Runs.move rfl rfl) ?_
    refine E.GL.run rfl rfl rfl (E.Runs.move rfl rfl) ?_
    refine E.GL.run rfl rfl rfl (E.Runs.move rfl rfl) ?_
    refine E.GL.st rfl rfl rfl (E.ST.call rfl ent57 (E.evc rfl (E.evc rfl (E.evc rfl (E.evc rfl E.evn)))) ((keptn_calls M (truths M) A A11 c c11 h h _ C11 hok (by omega) ⟨hh0, by omega⟩ (by omega)).mono ?_))
    rintro e w21 ⟨rfl, l21⟩
    refine ⟨_, rfl, ?_⟩
    replace b2 := blk_below b2 l21
    replace L := below_step L l21
    rw [keepsT_cnt]
    refine E.GL.done ?_
    refine E.QG.code ?_
    refine E.CG.block ?_
    refine E.CG.seq ?_
    refine E.CG.list ?_
    refine E.GL.run rfl rfl rfl (E.Runs.move rfl rfl) ?_
    refine E.GL.run rfl rfl rfl (E.Runs.len rfl rfl hu46) ?_
    refine E.GL.cmp rfl rfl rfl (fun _ h => (E.Runs.eql rfl rfl rfl h)) (fun h25 => ?_) (fun h25 => ?_)
    · refine E.GL.run rfl rfl rfl (E.Runs.assign rfl rfl) ?_
      refine E.GL.done ?_
      refine E.QG.code ?_
      refine E.CG.cond_t rfl ?_
      refine E.CG.seq ?_
      refine E.CG.list ?_
      refine E.GL.run rfl rfl rfl (E.Runs.assign rfl rfl) ?_
      refine E.GL.run rfl rfl rfl (E.Runs.assign rfl rfl) ?_
      refine E.GL.done ?_
      refine E.QG.code ?_
      refine E.CG.ret ?_
      refine E.QG.block_ret ?_
      refine E.QG.pass_ret ?_
      exact E.QG.result2 rfl rfl rfl ⟨by unfold keepsV keepsT; rw [if_pos (by omega), show askE M h = 0 by omega, if_pos (by omega)], L⟩
    · refine E.GL.run rfl rfl rfl (E.Runs.assign rfl rfl) ?_
      refine E.GL.done ?_
      refine E.QG.code ?_
      refine E.CG.cond_f rfl ?_
      refine E.CG.seq ?_
      refine E.CG.list ?_
      refine E.GL.cmp rfl rfl rfl (fun _ h => (E.Runs.eql rfl rfl rfl h)) (fun h27 => ?_) (fun h27 => ?_)
      · refine E.GL.run rfl rfl rfl (E.Runs.assign rfl rfl) ?_
        refine E.GL.done ?_
        refine E.QG.code ?_
        refine E.CG.cond_t rfl ?_
        refine E.CG.seq ?_
        refine E.CG.list ?_
        refine E.GL.run rfl rfl rfl (E.Runs.assign rfl rfl) ?_
        refine E.GL.run rfl rfl rfl (E.Runs.assign rfl rfl) ?_
        refine E.GL.done ?_
        refine E.QG.code ?_
        refine E.CG.ret ?_
        refine E.QG.block_ret ?_
        refine E.QG.pass_ret ?_
        exact E.QG.result2 rfl rfl rfl ⟨by unfold keepsV keepsT; rw [if_pos (by omega), show askE M h = 0 by omega, if_neg (by omega), if_pos (by omega)], L⟩
      · refine E.GL.run rfl rfl rfl (E.Runs.assign rfl rfl) ?_
        refine E.GL.done ?_
        refine E.QG.code ?_
        refine E.CG.cond_f rfl ?_
        refine E.CG.skip ?_
        refine E.QG.block_normal ?_
        refine E.QG.code ?_
        refine E.CG.seq ?_
        refine E.CG.list ?_
        refine E.GL.run rfl rfl rfl (E.Runs.assign rfl rfl) ?_
        refine E.GL.run rfl rfl rfl (E.Runs.assign rfl rfl) ?_
        refine E.GL.done ?_
        refine E.QG.code ?_
        refine E.CG.ret ?_
        exact E.QG.result2 rfl rfl rfl ⟨by unfold keepsV keepsT; rw [if_pos (by omega), show askE M h = 0 by omega, if_neg (by omega), if_neg (by omega)], L⟩

set_option maxRecDepth 100000 in
set_option maxHeartbeats 8000000 in

theorem refuntil_calls (M : Lm) (A : Option Addr) (c : Nat) (h : Int) (w : World) (hr : Kd.C k64 w A M.gs.length M.gs) (hn : M.gs.length ≤ 1000000) :
    Calls Try.prog 29 #[lv M A c, .int .i64 h] w fun e w' => e = .returned (.tuple #[.int .i64 (untilV M h).1, .int .i64 (untilV M h).2, .int .i64 (askE M h)]) ∧ Below w.heap.size w w' := by
  have hu3 := Try.underlying3
  have hu23 := Try.underlying23
  have hu26 := Try.underlying26
  have hu46 := Try.underlying46
  obtain ⟨z3, o3⟩ := info_some info3s (by decide)
  obtain ⟨z23, o23⟩ := info_some info23s (by decide)
  refine E.enter (N := 41) Try.func29 rfl Try.ntmps29 (args := [lv M A c, .int .i64 h]) (by simp) ?_
  have L := Below.refl w.heap.size w
  refine E.CG.seq ?_
  refine E.CG.list ?_
  refine E.GL.st rfl rfl rfl (E.ST.box rfl rfl fun g2 w2 e2 b2 l2 => ?_)
  have h2_L : w.heap.size ≤ g2 := by rw [e2]; exact L.size
  replace L := below_step L l2
  refine E.GL.run rfl rfl rfl (E.Runs.assign rfl rfl) ?_
  refine E.GL.run rfl rfl rfl (E.Runs.assign rfl rfl) ?_
  refine E.GL.run rfl rfl rfl (E.Runs.assign rfl rfl) ?_
  refine E.GL.done ?_
  refine E.QG.code ?_
  refine E.CG.seq ?_
  refine E.CG.list ?_
  refine E.GL.run rfl rfl rfl (E.Runs.loads (cs := [.int .i64 M.fl, .int .i64 M.fh, .int .i64 M.al, .int .i64 M.ah, .int .i64 M.nl, .int .i64 M.nh, .int .i64 M.ra, .slice A M.gs.length c, .int .i64 M.wr]) rfl rfl hu26 rfl info26s (blk_cells b2)) ?_
  refine E.GL.run rfl rfl rfl (E.Runs.move rfl rfl) ?_
  refine E.GL.st rfl rfl rfl (E.ST.call rfl ent59 (E.evc rfl (E.evc rfl E.evn)) ((known_calls M A c h _ (Kd.C_below hr L) hn).mono ?_))
  rintro e w13 ⟨v13, rfl, R13, l13⟩
  refine ⟨_, rfl, ?_⟩
  replace b2 := blk_below b2 l13
  replace L := below_step L l13
  have lo := Below.refl w13.heap.size w13
  refine E.GL.run rfl rfl rfl (E.Runs.move rfl rfl) ?_
  refine E.GL.run rfl rfl rfl (E.Runs.extract rfl rfl rfl) ?_
  refine E.GL.run rfl rfl rfl (E.Runs.extract rfl rfl rfl) ?_
  refine E.GL.run rfl rfl rfl (E.Runs.assign rfl rfl) ?_
  refine E.GL.run rfl rfl rfl (E.Runs.assign rfl rfl) ?_
  refine E.GL.done ?_
  refine E.QG.code ?_
  refine E.CG.seq ?_
  refine E.CG.seq ?_
  refine E.CG.list ?_
  refine E.GL.run rfl rfl rfl (E.Runs.move rfl rfl) ?_
  refine E.GL.cmpn rfl rfl rfl (fun _ h => (E.Runs.neq rfl rfl rfl h)) (fun h17 => ?_) (fun h17 => ?_)
  · refine E.GL.done ?_
    refine E.QG.code ?_
    refine E.CG.cond_t rfl ?_
    refine E.CG.seq ?_
    refine E.CG.list ?_
    refine E.GL.run rfl rfl rfl (E.Runs.move rfl rfl) ?_
    refine E.GL.run rfl rfl rfl (E.Runs.assign rfl rfl) ?_
    refine E.GL.run rfl rfl rfl (E.Runs.assign rfl rfl) ?_
    refine E.GL.run rfl rfl rfl (E.Runs.assign rfl rfl) ?_
    refine E.GL.done ?_
    refine E.QG.code ?_
    refine E.CG.ret ?_
    refine E.QG.pass_ret ?_
    exact E.QG.result3 rfl rfl rfl rfl ⟨by unfold untilV; rw [if_neg h17]; rfl, L⟩
  · obtain ⟨hV, hh, hpos⟩ := askE_ok (M := M) (h := h) (by omega)
    rw [askT_0 (by omega)] at R13
    obtain ⟨A13, c13, hv13⟩ := Kd.R_slice R13
    subst hv13
    obtain ⟨_, _, C13⟩ := Kd.R_reads' R13
    obtain ⟨hh0, hh1⟩ := hh
    have hf := truths_few hV.1
    have hok : ∀ x ∈ truths M, PtOk x := fun x hx => truths_ok hV.1 hx
    have hra1 : M.ra ≤ 40 := hV.1.2.2.2.1.2
    have hra0 : 0 ≤ M.ra := hV.1.2.2.2.1.1
    refine E.GL.done ?_
    refine E.QG.code ?_
    refine E.CG.cond_f rfl ?_
    refine E.CG.skip ?_
    refine E.QG.code ?_
    refine E.CG.seq ?_
    refine E.CG.list ?_
    refine E.GL.run rfl rfl rfl (E.Runs.assign rfl rfl) ?_
    refine E.GL.run rfl rfl rfl (E.Runs.assign rfl rfl) ?_
    refine E.GL.done ?_
    refine E.QG.code ?_
    refine E.CG.seq ?_
    refine E.CG.seq ?_
    refine E.CG.list ?_
    refine E.GL.run rfl rfl rfl (E.Runs.move rfl rfl) ?_
    refine E.GL.run rfl rfl rfl (E.Runs.assign rfl rfl) ?_
    refine E.GL.done ?_
    refine E.QG.code ?_
    refine E.CG.block ?_
    have s6_b2 := b2
    have s6_L := L
    have s6_lo := lo
    refine E.CG.loop (fun (i : Nat) => [(1, .int .i64 h), (2, .pointer (some ⟨g2, 0, none⟩)), (4, .int .i64 (sureT M.nl M.nh h (h + i - 1) (truths M))), (5, .int .i64 (mayT M.nl M.nh h (h + i - 1) (truths M))), (7, .slice A13 (truths M).length c13), (8, .int .i64 (h + i))]) (fun i w' => (i = 0 ∨ h + i ≤ M.ra + 1) ∧ Below w13.heap.size w13 w') (fun i => (M.ra + 1 - h).toNat - i) 0 (E.subc rfl (E.subc rfl (E.subc (congrArg (fun t => some (Value.int .i64 t)) (show (-1 : Int) = sureT M.nl M.nh h (h + ((0 : Nat) : Int) - 1) (truths M) from (sure_low (by omega)).symm)) (E.subc (congrArg (fun t => some (Value.int .i64 t)) (show (-1 : Int) = mayT M.nl M.nh h (h + ((0 : Nat) : Int) - 1) (truths M) from (may_low (by omega)).symm)) (E.subc rfl (E.subc (congrArg (fun t => some (Value.int .i64 t)) (show h = h + ((0 : Nat) : Int) by omega)) E.subn)))))) ⟨.inl rfl, Below.refl _ _⟩ ?_
    rintro i w6 ⟨hi, lq⟩
    replace b2 := blk_below b2 lq
    replace L := below_step L lq
    replace lo := below_step lo lq
    refine E.CG.seq ?_
    refine E.CG.seq ?_
    refine E.CG.list ?_
    refine E.GL.run rfl rfl rfl (E.Runs.move rfl rfl) ?_
    refine E.GL.run rfl rfl rfl (E.Runs.fieldAddr rfl rfl hu26 rfl (by assumption) rfl) ?_
    refine E.GL.run rfl rfl rfl (E.Runs.load rfl rfl hu3 (by first | assumption | exact E.blkc (by assumption) rfl | exact pw_cell_below L (by assumption) | exact pw_cell_below lo (by assumption) | exact pw_cell_below lq (by assumption))) ?_
    refine E.GL.cmp rfl rfl rfl (fun _ h => (E.Runs.leq rfl rfl rfl h)) (fun h23 => ?_) (fun h23 => ?_)
    · refine E.GL.done ?_
      refine E.QG.code ?_
      refine E.CG.cond_t rfl ?_
      refine E.CG.skip ?_
      refine E.QG.code ?_
      refine E.CG.seq ?_
      refine E.CG.block ?_
      refine E.CG.seq ?_
      refine E.CG.list ?_
      refine E.GL.run rfl rfl rfl (E.Runs.loads (cs := [.int .i64 M.fl, .int .i64 M.fh, .int .i64 M.al, .int .i64 M.ah, .int .i64 M.nl, .int .i64 M.nh, .int .i64 M.ra, .slice A M.gs.length c, .int .i64 M.wr]) rfl rfl hu26 rfl info26s (blk_cells b2)) ?_
      refine E.GL.run rfl rfl rfl (E.Runs.move rfl rfl) ?_
      refine E.GL.run rfl rfl rfl (E.Runs.move rfl rfl) ?_
      refine E.GL.run rfl rfl rfl (E.Runs.move rfl rfl) ?_
      refine E.GL.st rfl rfl rfl (E.ST.call rfl ent57 (E.evc rfl (E.evc rfl (E.evc rfl (E.evc rfl E.evn)))) ((keptn_calls M (truths M) A A13 c c13 h (h + i) _ (Kd.C_below C13 lo) hok (by omega) ⟨hh0, by omega⟩ (by omega)).mono ?_))
      rintro e w30 ⟨rfl, l30⟩
      refine ⟨_, rfl, ?_⟩
      replace b2 := blk_below b2 l30
      replace L := below_step L l30
      replace lo := below_step lo l30
      replace lq := below_step lq l30
      refine E.GL.run rfl rfl rfl (E.Runs.assign rfl rfl) ?_
      refine E.GL.done ?_
      refine E.QG.code ?_
      refine E.CG.seq ?_
      refine E.CG.seq ?_
      refine E.CG.list ?_
      refine E.GL.run rfl rfl rfl (E.Runs.move rfl rfl) ?_
      refine E.GL.run rfl rfl rfl (E.Runs.move rfl rfl) ?_
      refine E.GL.run rfl rfl rfl (E.Runs.len rfl rfl hu46) ?_
      refine E.GL.cmp rfl rfl rfl (fun _ h => (E.Runs.eql rfl rfl rfl h)) (fun h34 => ?_) (fun h34 => ?_)
      · refine E.GL.done ?_
        refine E.QG.code ?_
        refine E.CG.cond_t rfl ?_
        refine E.CG.list ?_
        refine E.GL.run rfl rfl rfl (E.Runs.move rfl rfl) ?_
        refine E.GL.run rfl rfl rfl (E.Runs.assign rfl rfl) ?_
        refine E.GL.done ?_
        refine E.QG.code ?_
        refine E.CG.seq ?_
        refine E.CG.list ?_
        refine E.GL.run rfl rfl rfl (E.Runs.move rfl rfl) ?_
        refine E.GL.cmp rfl rfl rfl (fun _ h => (E.Runs.gtr rfl rfl rfl h)) (fun h37 => ?_) (fun h37 => ?_)
        · refine E.GL.done ?_
          refine E.QG.code ?_
          refine E.CG.cond_t rfl ?_
          refine E.CG.list ?_
          refine E.GL.run rfl rfl rfl (E.Runs.move rfl rfl) ?_
          refine E.GL.run rfl rfl rfl (E.Runs.assign rfl rfl) ?_
          refine E.GL.done ?_
          refine E.QG.block_normal ?_
          refine E.QG.code ?_
          refine E.CG.list ?_
          refine E.GL.run rfl rfl rfl (E.Runs.move rfl rfl) ?_
          refine E.GL.run rfl rfl rfl (E.Runs.add rfl rfl rfl (IntWalk.i64_in _ (by omega))) ?_
          refine E.GL.run rfl rfl rfl (E.Runs.assign rfl rfl) ?_
          refine E.GL.done ?_
          exact E.QG.round (i + 1) (E.subc rfl (E.subc rfl (E.subc (by first | (rw [sure_up hh0 (by omega)]; rfl) | (rw [sure_keep hh0 (by omega)]; rfl)) (E.subc (by first | (rw [may_up hh0 (by omega)]; rfl) | (rw [may_keep hh0 (by omega)]; rfl)) (E.subc rfl (E.subc (by rw [show h + ((i + 1 : Nat) : Int) = h + (i : Int) + 1 by omega]; rfl) E.subn)))))) ⟨.inr (by omega), lq⟩ (by omega)
        · refine E.GL.done ?_
          refine E.QG.code ?_
          refine E.CG.cond_f rfl ?_
          refine E.CG.skip ?_
          refine E.QG.block_normal ?_
          refine E.QG.code ?_
          refine E.CG.list ?_
          refine E.GL.run rfl rfl rfl (E.Runs.move rfl rfl) ?_
          refine E.GL.run rfl rfl rfl (E.Runs.add rfl rfl rfl (IntWalk.i64_in _ (by omega))) ?_
          refine E.GL.run rfl rfl rfl (E.Runs.assign rfl rfl) ?_
          refine E.GL.done ?_
          exact E.QG.round (i + 1) (E.subc rfl (E.subc rfl (E.subc (by first | (rw [sure_up hh0 (by omega)]; rfl) | (rw [sure_keep hh0 (by omega)]; rfl)) (E.subc (by first | (rw [may_up hh0 (by omega)]; rfl) | (rw [may_keep hh0 (by omega)]; rfl)) (E.subc rfl (E.subc (by rw [show h + ((i + 1 : Nat) : Int) = h + (i : Int) + 1 by omega]; rfl) E.subn)))))) ⟨.inr (by omega), lq⟩ (by omega)
      · refine E.GL.done ?_
        refine E.QG.code ?_
        refine E.CG.cond_f rfl ?_
        refine E.CG.skip ?_
        refine E.QG.code ?_
        refine E.CG.seq ?_
        refine E.CG.list ?_
        refine E.GL.run rfl rfl rfl (E.Runs.move rfl rfl) ?_
        refine E.GL.cmp rfl rfl rfl (fun _ h => (E.Runs.gtr rfl rfl rfl h)) (fun h37 => ?_) (fun h37 => ?_)
        · refine E.GL.done ?_
          refine E.QG.code ?_
          refine E.CG.cond_t rfl ?_
          refine E.CG.list ?_
          refine E.GL.run rfl rfl rfl (E.Runs.move rfl rfl) ?_
          refine E.GL.run rfl rfl rfl (E.Runs.assign rfl rfl) ?_
          refine E.GL.done ?_
          refine E.QG.block_normal ?_
          refine E.QG.code ?_
          refine E.CG.list ?_
          refine E.GL.run rfl rfl rfl (E.Runs.move rfl rfl) ?_
          refine E.GL.run rfl rfl rfl (E.Runs.add rfl rfl rfl (IntWalk.i64_in _ (by omega))) ?_
          refine E.GL.run rfl rfl rfl (E.Runs.assign rfl rfl) ?_
          refine E.GL.done ?_
          exact E.QG.round (i + 1) (E.subc rfl (E.subc rfl (E.subc (by first | (rw [sure_up hh0 (by omega)]; rfl) | (rw [sure_keep hh0 (by omega)]; rfl)) (E.subc (by first | (rw [may_up hh0 (by omega)]; rfl) | (rw [may_keep hh0 (by omega)]; rfl)) (E.subc rfl (E.subc (by rw [show h + ((i + 1 : Nat) : Int) = h + (i : Int) + 1 by omega]; rfl) E.subn)))))) ⟨.inr (by omega), lq⟩ (by omega)
        · refine E.GL.done ?_
          refine E.QG.code ?_
          refine E.CG.cond_f rfl ?_
          refine E.CG.skip ?_
          refine E.QG.block_normal ?_
          refine E.QG.code ?_
          refine E.CG.list ?_
          refine E.GL.run rfl rfl rfl (E.Runs.move rfl rfl) ?_
          refine E.GL.run rfl rfl rfl (E.Runs.add rfl rfl rfl (IntWalk.i64_in _ (by omega))) ?_
          refine E.GL.run rfl rfl rfl (E.Runs.assign rfl rfl) ?_
          refine E.GL.done ?_
          exact E.QG.round (i + 1) (E.subc rfl (E.subc rfl (E.subc (by first | (rw [sure_up hh0 (by omega)]; rfl) | (rw [sure_keep hh0 (by omega)]; rfl)) (E.subc (by first | (rw [may_up hh0 (by omega)]; rfl) | (rw [may_keep hh0 (by omega)]; rfl)) (E.subc rfl (E.subc (by rw [show h + ((i + 1 : Nat) : Int) = h + (i : Int) + 1 by omega]; rfl) E.subn)))))) ⟨.inr (by omega), lq⟩ (by omega)
    · refine E.GL.done ?_
      refine E.QG.code ?_
      refine E.CG.cond_f rfl ?_
      refine E.CG.exit ?_
      refine E.QG.pass_exit ?_
      refine E.QG.pass_exit ?_
      refine E.QG.block_here ?_
      refine E.QG.code ?_
      refine E.CG.seq ?_
      refine E.CG.list ?_
      refine E.GL.run rfl rfl rfl (E.Runs.move rfl rfl) ?_
      refine E.GL.run rfl rfl rfl (E.Runs.move rfl rfl) ?_
      refine E.GL.run rfl rfl rfl (E.Runs.assign rfl rfl) ?_
      refine E.GL.run rfl rfl rfl (E.Runs.assign rfl rfl) ?_
      refine E.GL.run rfl rfl rfl (E.Runs.assign rfl rfl) ?_
      refine E.GL.done ?_
      refine E.QG.code ?_
      refine E.CG.ret ?_
      exact E.QG.result3 rfl rfl rfl rfl ⟨by rw [(until_end hi h23).1, (until_end hi h23).2]; unfold untilV; rw [if_pos (by omega), show askE M h = 0 by omega], L⟩

set_option maxRecDepth 100000 in
set_option maxHeartbeats 8000000 in

theorem refat_calls (M : Lm) (A : Option Addr) (c : Nat) (h : Int) (w : World) (hr : Kd.C k64 w A M.gs.length M.gs) (hn : M.gs.length ≤ 1000000) :
    Calls Try.prog 26 #[lv M A c, .int .i64 h] w fun e w' => e = .returned (.tuple #[.agg #[.int .i64 (atV M h).1, .int .i64 (atV M h).2], .int .i64 (askE M h)]) ∧ Below w.heap.size w w' := by
  have hu3 := Try.underlying3
  have hu23 := Try.underlying23
  have hu26 := Try.underlying26
  have hu46 := Try.underlying46
  have hu54 := Try.underlying54
  obtain ⟨z3, o3⟩ := info_some info3s (by decide)
  obtain ⟨z23, o23⟩ := info_some info23s (by decide)
  obtain ⟨z54, o54⟩ := info_some info54s (by decide)
  refine E.enter (N := 57) Try.func26 rfl Try.ntmps26 (args := [lv M A c, .int .i64 h]) (by simp) ?_
  have L := Below.refl w.heap.size w
  refine E.CG.seq ?_
  refine E.CG.list ?_
  refine E.GL.st rfl rfl rfl (E.ST.box rfl rfl fun g2 w2 e2 b2 l2 => ?_)
  have h2_L : w.heap.size ≤ g2 := by rw [e2]; exact L.size
  replace L := below_step L l2
  refine E.GL.st rfl rfl rfl (E.ST.alloc rfl info23z fun g4 w4 e4 b4 l4 => ?_)
  have h4_L : w.heap.size ≤ g4 := by rw [e4]; exact L.size
  have n4_b2 : g2 ≠ g4 := by have := blk_lt b2; omega
  replace b2 := blk_below b2 l4
  replace L := below_step L l4
  refine E.GL.run rfl rfl rfl (E.Runs.assign rfl rfl) ?_
  refine E.GL.done ?_
  refine E.QG.code ?_
  refine E.CG.seq ?_
  refine E.CG.list ?_
  refine E.GL.run rfl rfl rfl (E.Runs.loads (cs := [.int .i64 M.fl, .int .i64 M.fh, .int .i64 M.al, .int .i64 M.ah, .int .i64 M.nl, .int .i64 M.nh, .int .i64 M.ra, .slice A M.gs.length c, .int .i64 M.wr]) rfl rfl hu26 rfl info26s (blk_cells b2)) ?_
  refine E.GL.run rfl rfl rfl (E.Runs.move rfl rfl) ?_
  refine E.GL.st rfl rfl rfl (E.ST.call rfl ent59 (E.evc rfl (E.evc rfl E.evn)) ((known_calls M A c h _ (Kd.C_below hr L) hn).mono ?_))
  rintro e w13 ⟨v13, rfl, R13, l13⟩
  refine ⟨_, rfl, ?_⟩
  replace b2 := blk_below b2 l13
  replace b4 := blk_below b4 l13
  replace L := below_step L l13
  have lo := Below.refl w13.heap.size w13
  refine E.GL.run rfl rfl rfl (E.Runs.move rfl rfl) ?_
  refine E.GL.run rfl rfl rfl (E.Runs.extract rfl rfl rfl) ?_
  refine E.GL.run rfl rfl rfl (E.Runs.extract rfl rfl rfl) ?_
  refine E.GL.run rfl rfl rfl (E.Runs.assign rfl rfl) ?_
  refine E.GL.run rfl rfl rfl (E.Runs.assign rfl rfl) ?_
  refine E.GL.done ?_
  refine E.QG.code ?_
  refine E.CG.seq ?_
  refine E.CG.seq ?_
  refine E.CG.list ?_
  refine E.GL.run rfl rfl rfl (E.Runs.move rfl rfl) ?_
  refine E.GL.cmpn rfl rfl rfl (fun _ h => (E.Runs.neq rfl rfl rfl h)) (fun h17 => ?_) (fun h17 => ?_)
  · refine E.GL.done ?_
    refine E.QG.code ?_
    refine E.CG.cond_t rfl ?_
    refine E.CG.seq ?_
    refine E.CG.list ?_
    refine E.GL.run rfl rfl rfl (E.Runs.build rfl E.epn (build23z)) ?_
    refine E.GL.run rfl rfl rfl (E.Runs.move rfl rfl) ?_
    refine E.GL.store_whole rfl rfl rfl rfl rfl b4 rfl info23s (two_one _ _) fun wS3_2 c4 lS3_2 => ?_
    replace b2 := blk_grown b2 lS3_2 (E.nes (by first | assumption | exact Ne.symm (by assumption)))
    replace L := E.below_own L h4_L lS3_2
    replace b4 := c4
    clear c4
    refine E.GL.run rfl rfl rfl (E.Runs.assign rfl rfl) ?_
    refine E.GL.done ?_
    refine E.QG.code ?_
    refine E.CG.ret ?_
    refine E.QG.pass_ret ?_
    exact E.QG.result_ct rfl rfl b4 hu23 rfl info23c rfl ⟨by unfold atV; rw [if_neg h17]; rfl, L⟩
  · obtain ⟨hV, hh, hpos⟩ := askE_ok (M := M) (h := h) (by omega)
    rw [askT_0 (by omega)] at R13
    obtain ⟨A13, c13, hv13⟩ := Kd.R_slice R13
    subst hv13
    obtain ⟨_, _, C13⟩ := Kd.R_reads' R13
    obtain ⟨hh0, hh1⟩ := hh
    have hf := truths_few hV.1
    have hok : ∀ x ∈ truths M, PtOk x := fun x hx => truths_ok hV.1 hx
    obtain ⟨x0, hx0⟩ : ∃ x0, x0 = (truths M).headD ⟨0, 0⟩ := ⟨_, rfl⟩
    have hhd := head_at hpos
    rw [← hx0] at hhd
    obtain ⟨ad0, eA0, X0⟩ := line_at C13 hhd
    have hm0 := List.mem_of_getElem? hhd
    refine E.GL.done ?_
    refine E.QG.code ?_
    refine E.CG.cond_f rfl ?_
    refine E.CG.skip ?_
    refine E.QG.code ?_
    refine E.CG.seq ?_
    refine E.CG.heldH (none) (by kernel_rfl) fun v4 lD hh => ?_
    replace b2 := blk_below b2 lD
    replace b4 := blk_below b4 lD
    replace L := below_step L lD
    replace lo := below_step lo lD
    clear lD
    have s_b2 := b2
    have s_b4 := b4
    have s_L := L
    have s_lo := lo
    refine E.GH.take (i := 0) rfl (by kernel_rfl) (by kernel_rfl) (by kernel_rfl) (by intro c a d v w h; cases d <;> exact h) rfl rfl rfl (fun w' hS => (E.Runs.move rfl rfl)) ?_
    refine E.GH.take (i := 1) rfl (by kernel_rfl) (by kernel_rfl) (by kernel_rfl) (by intro c a d v w h; cases d <;> exact h) rfl rfl rfl (fun w' hS => (E.Runs.indexAddrA (i := 0) rfl rfl rfl hu46 z54 o54 (by omega) eA0 rfl)) ?_
    refine E.GH.take (i := 2) rfl (by kernel_rfl) (by kernel_rfl) (by kernel_rfl) (by intro c a d v w h; cases d <;> exact h) rfl rfl rfl (fun w' hS => (E.Runs.loads (cs := [.int .i64 x0.f0, .int .i64 x0.f1]) rfl rfl hu54 rfl info54s ((X0.below (below_step s_lo (E.belowG hS))).cells))) ?_
    refine E.GH.take (i := 3) rfl (by kernel_rfl) (by kernel_rfl) (by kernel_rfl) (by intro c a d v w h; cases d <;> exact h) rfl rfl rfl (fun w' hS => (E.Runs.move rfl rfl)) ?_
    refine E.GH.take (i := 5) rfl (by kernel_rfl) (by kernel_rfl) (by kernel_rfl) (by intro c a d v w h; cases d <;> exact h) rfl rfl rfl (fun w' hS => (E.Runs.move rfl rfl)) ?_
    refine E.GH.take (i := 6) rfl (by kernel_rfl) (by kernel_rfl) (by kernel_rfl) (by intro c a d v w h; cases d <;> exact h) rfl rfl rfl (fun w' hS => (E.Runs.indexAddrA (i := 0) rfl rfl rfl hu46 z54 o54 (by omega) eA0 rfl)) ?_
    refine E.GH.take (i := 7) rfl (by kernel_rfl) (by kernel_rfl) (by kernel_rfl) (by intro c a d v w h; cases d <;> exact h) rfl rfl rfl (fun w' hS => (E.Runs.loads (cs := [.int .i64 x0.f0, .int .i64 x0.f1]) rfl rfl hu54 rfl info54s ((X0.below (below_step s_lo (E.belowG hS))).cells))) ?_
    refine E.GH.take (i := 8) rfl (by kernel_rfl) (by kernel_rfl) (by kernel_rfl) (by intro c a d v w h; cases d <;> exact h) rfl rfl rfl (fun w' hS => (E.Runs.move rfl rfl)) ?_
    refine E.GH.all (rs := [4, 11]) (by kernel_rfl) (by simp) (E.GHs.cons rfl ?_ (E.GHs.cons rfl ?_ E.GHs.nil))
    · refine E.GO.st rfl rfl rfl (E.ST.call rfl ent31 (E.evc rfl (E.evc rfl E.evn)) ((light_r x0 h _ (hok x0 hm0) hh0 (by omega)).mono ?_))
      rintro e w24 ⟨rfl, l24⟩
      refine ⟨_, rfl, hh.trans (E.gbB l24), ?_⟩
      replace hh := hh.trans (E.gbB l24)
      replace b2 := blk_below b2 l24
      replace b4 := blk_below b4 l24
      replace L := below_step L l24
      replace lo := below_step lo l24
      refine E.GH.all (rs := [9, 11]) (by kernel_rfl) (by simp) (E.GHs.cons rfl ?_ (E.GHs.cons rfl ?_ E.GHs.nil))
      · refine E.GO.st rfl rfl rfl (E.ST.call rfl ent31 (E.evc rfl (E.evc rfl E.evn)) ((light_r x0 h _ (hok x0 hm0) hh0 (by omega)).mono ?_))
        rintro e w29 ⟨rfl, l29⟩
        refine ⟨_, rfl, hh.trans (E.gbB l29), ?_⟩
        replace hh := hh.trans (E.gbB l29)
        replace b2 := blk_below b2 l29
        replace b4 := blk_below b4 l29
        replace L := below_step L l29
        replace lo := below_step lo l29
        refine E.GH.take (i := 10) rfl (by kernel_rfl) (by kernel_rfl) (by kernel_rfl) (by intro c a d v w h; cases d <;> exact h) rfl rfl rfl (fun w' hS => (E.Runs.build rfl (E.epc rfl (E.epc rfl E.epn)) (build23 _ _))) ?_
        refine E.GH.one (i := 11) (by kernel_rfl) rfl ?_
        refine E.GO.st rfl rfl rfl (E.ST.alloc rfl info23z fun g8 w8 e8 b8 l8 => ⟨hh.trans (E.gbB l8), ?_⟩)
        have hh0 := hh
        replace hh := hh.trans (E.gbB l8)
        have h8_hh : v4.heap.size ≤ g8 := by rw [e8]; exact hh0.size
        have h8_L : w.heap.size ≤ g8 := by rw [e8]; exact L.size
        have h8_lo : w13.heap.size ≤ g8 := by rw [e8]; exact lo.size
        have n8_b2 : g2 ≠ g8 := by have := blk_lt b2; omega
        have n8_b4 : g4 ≠ g8 := by have := blk_lt b4; omega
        clear hh0
        replace b2 := blk_below b2 l8
        replace b4 := blk_below b4 l8
        replace L := below_step L l8
        replace lo := below_step lo l8
        refine E.GH.one (i := 12) (by kernel_rfl) rfl ?_
        refine E.GO.sn rfl rfl (E.ST.storeS (off := 0) (cells := [.int .i64 (light x0 h), .int .i64 (light x0 h)]) rfl rfl rfl b8 rfl info23s (two_one _ _) rfl fun wS4_12 c8 lS4_12 => ⟨E.gb_own hh h8_hh lS4_12, ?_⟩)
        replace hh := E.gb_own hh h8_hh lS4_12
        replace b2 := blk_grown b2 lS4_12 (E.nes (by first | assumption | exact Ne.symm (by assumption)))
        replace b4 := blk_grown b4 lS4_12 (E.nes (by first | assumption | exact Ne.symm (by assumption)))
        replace L := E.below_own L h8_L lS4_12
        replace lo := E.below_own lo h8_lo lS4_12
        replace b8 := c8
        clear c8
        refine E.GH.done (by kernel_rfl) ?_
        refine E.QG.code ?_
        refine E.CG.seq ?_
        refine E.CG.seq ?_
        refine E.CG.list ?_
        refine E.GL.run rfl rfl rfl (E.Runs.assign rfl rfl) ?_
        refine E.GL.done ?_
        refine E.QG.code ?_
        refine E.CG.block ?_
        have s6_b2 := b2
        have s6_b4 := b4
        have s6_b8 := b8
        have s6_L := L
        have s6_lo := lo
        refine E.CG.loop (fun (i : Nat) => [(1, .int .i64 h), (4, .pointer (some ⟨g4, 0, none⟩)), (6, .slice A13 (truths M).length c13), (8, .pointer (some ⟨g8, 0, none⟩)), (9, .int .i64 i)]) (fun i w' => i ≤ (truths M).length ∧ w'.heap[g8]? = some (.cells #[.int .i64 (spanT x0 ((truths M).take i) h).1, .int .i64 (spanT x0 ((truths M).take i) h).2] 23 (0, 0)) ∧ wS4_12.grownBy w' (some g8)) (fun i => (truths M).length - i) 0 (E.subc rfl (E.subc rfl (E.subc rfl (E.subc rfl (E.subc rfl E.subn))))) ⟨Nat.zero_le _, b8, World.grownBy.refl _ _⟩ ?_
        rintro i w6 ⟨hi, b8, gq⟩
        replace b2 := blk_grown b2 gq (E.nes (by first | assumption | exact Ne.symm (by assumption)))
        replace b4 := blk_grown b4 gq (E.nes (by first | assumption | exact Ne.symm (by assumption)))
        replace L := E.below_own L h8_L gq
        replace lo := E.below_own lo h8_lo gq
        refine E.CG.seq ?_
        refine E.CG.seq ?_
        refine E.CG.list ?_
        refine E.GL.run rfl rfl rfl (E.Runs.move rfl rfl) ?_
        refine E.GL.run rfl rfl rfl (E.Runs.move rfl rfl) ?_
        refine E.GL.run rfl rfl rfl (E.Runs.len rfl rfl hu46) ?_
        refine E.GL.cmp rfl rfl rfl (fun _ h => (E.Runs.lss rfl rfl rfl h)) (fun h34 => ?_) (fun h34 => ?_)
        · obtain ⟨x, hx⟩ : ∃ x, (truths M)[i]? = some x := ⟨_, List.getElem?_eq_getElem (by omega)⟩
          obtain ⟨ad, eA, X⟩ := line_at C13 hx
          have hit : (i : Int) < (truths M).length := by omega
          refine E.GL.done ?_
          refine E.QG.code ?_
          refine E.CG.cond_t rfl ?_
          refine E.CG.skip ?_
          refine E.QG.code ?_
          refine E.CG.seq ?_
          refine E.CG.block ?_
          refine E.CG.heldJ 19 (fun v W => v.grownBy W none) (fun _ _ => True) (by kernel_rfl) (by kernel_rfl) (fun v => World.grownBy.refl _ _) fun v8 lD => ?_
          replace b2 := blk_below b2 lD
          replace b4 := blk_below b4 lD
          replace b8 := blk_below b8 lD
          replace L := below_step L lD
          replace lo := below_step lo lD
          replace gq := gq.trans (E.gbB lD)
          have lD8 := lD
          clear lD
          have s_b2 := b2
          have s_b4 := b4
          have s_b8 := b8
          have s_L := L
          have s_lo := lo
          have s_gq := gq
          have hh : v8.grownBy v8 none := World.grownBy.refl _ _
          refine E.GJ.take1 (i := 0) rfl (by kernel_rfl) (by kernel_rfl) (by kernel_rfl) (by kernel_rfl) rfl (by kernel_rfl) (by kernel_rfl) (by intro c a d v w h; cases d <;> exact h) rfl rfl rfl (fun w' hS => (E.Runs.fieldAddr rfl rfl hu23 rfl (by assumption) rfl)) ?_
          refine E.GJ.take1 (i := 1) rfl (by kernel_rfl) (by kernel_rfl) (by kernel_rfl) (by kernel_rfl) rfl (by kernel_rfl) (by kernel_rfl) (by intro c a d v w h; cases d <;> exact h) rfl rfl rfl (fun w' hS => (E.Runs.load rfl rfl hu3 (by first | exact E.keeps hS (E.blkc (by assumption) rfl) (by first | exact E.nen | exact E.nes (by assumption) | exact E.nes (Ne.symm (by assumption))) | exact pw_cell_below (below_step s_L (E.belowG hS)) (by assumption) | exact pw_cell_below (below_step s_lo (E.belowG hS)) (by assumption)))) ?_
          refine E.GJ.take1 (i := 2) rfl (by kernel_rfl) (by kernel_rfl) (by kernel_rfl) (by kernel_rfl) rfl (by kernel_rfl) (by kernel_rfl) (by intro c a d v w h; cases d <;> exact h) rfl rfl rfl (fun w' hS => (E.Runs.move rfl rfl)) ?_
          refine E.GJ.take1 (i := 3) rfl (by kernel_rfl) (by kernel_rfl) (by kernel_rfl) (by kernel_rfl) rfl (by kernel_rfl) (by kernel_rfl) (by intro c a d v w h; cases d <;> exact h) rfl rfl rfl (fun w' hS => (E.Runs.move rfl rfl)) ?_
          refine E.GJ.take1 (i := 4) rfl (by kernel_rfl) (by kernel_rfl) (by kernel_rfl) (by kernel_rfl) rfl (by kernel_rfl) (by kernel_rfl) (by intro c a d v w h; cases d <;> exact h) rfl rfl rfl (fun w' hS => (E.Runs.indexAddrA rfl rfl rfl hu46 (by assumption) (by assumption) (by assumption) (by first | rfl | assumption) rfl)) ?_
          refine E.GJ.take1 (i := 5) rfl (by kernel_rfl) (by kernel_rfl) (by kernel_rfl) (by kernel_rfl) rfl (by kernel_rfl) (by kernel_rfl) (by intro c a d v w h; cases d <;> exact h) rfl rfl rfl (fun w' hS => (E.Runs.loads (cs := [.int .i64 x.f0, .int .i64 x.f1]) rfl rfl hu54 rfl info54s ((X.below (below_step s_lo (E.belowG hS))).cells))) ?_
          refine E.GJ.take1 (i := 6) rfl (by kernel_rfl) (by kernel_rfl) (by kernel_rfl) (by kernel_rfl) rfl (by kernel_rfl) (by kernel_rfl) (by intro c a d v w h; cases d <;> exact h) rfl rfl rfl (fun w' hS => (E.Runs.move rfl rfl)) ?_
          refine E.GJ.take1 (i := 9) rfl (by kernel_rfl) (by kernel_rfl) (by kernel_rfl) (by kernel_rfl) rfl (by kernel_rfl) (by kernel_rfl) (by intro c a d v w h; cases d <;> exact h) rfl rfl rfl (fun w' hS => (E.Runs.fieldAddr rfl rfl hu23 rfl (by assumption) rfl)) ?_
          refine E.GJ.take1 (i := 10) rfl (by kernel_rfl) (by kernel_rfl) (by kernel_rfl) (by kernel_rfl) rfl (by kernel_rfl) (by kernel_rfl) (by intro c a d v w h; cases d <;> exact h) rfl rfl rfl (fun w' hS => (E.Runs.load rfl rfl hu3 (by first | exact E.keeps hS (E.blkc (by assumption) rfl) (by first | exact E.nen | exact E.nes (by assumption) | exact E.nes (Ne.symm (by assumption))) | exact pw_cell_below (below_step s_L (E.belowG hS)) (by assumption) | exact pw_cell_below (below_step s_lo (E.belowG hS)) (by assumption)))) ?_
          refine E.GJ.take1 (i := 11) rfl (by kernel_rfl) (by kernel_rfl) (by kernel_rfl) (by kernel_rfl) rfl (by kernel_rfl) (by kernel_rfl) (by intro c a d v w h; cases d <;> exact h) rfl rfl rfl (fun w' hS => (E.Runs.move rfl rfl)) ?_
          refine E.GJ.take1 (i := 12) rfl (by kernel_rfl) (by kernel_rfl) (by kernel_rfl) (by kernel_rfl) rfl (by kernel_rfl) (by kernel_rfl) (by intro c a d v w h; cases d <;> exact h) rfl rfl rfl (fun w' hS => (E.Runs.move rfl rfl)) ?_
          refine E.GJ.take1 (i := 13) rfl (by kernel_rfl) (by kernel_rfl) (by kernel_rfl) (by kernel_rfl) rfl (by kernel_rfl) (by kernel_rfl) (by intro c a d v w h; cases d <;> exact h) rfl rfl rfl (fun w' hS => (E.Runs.indexAddrA rfl rfl rfl hu46 (by assumption) (by assumption) (by assumption) (by first | rfl | assumption) rfl)) ?_
          refine E.GJ.take1 (i := 14) rfl (by kernel_rfl) (by kernel_rfl) (by kernel_rfl) (by kernel_rfl) rfl (by kernel_rfl) (by kernel_rfl) (by intro c a d v w h; cases d <;> exact h) rfl rfl rfl (fun w' hS => (E.Runs.loads (cs := [.int .i64 x.f0, .int .i64 x.f1]) rfl rfl hu54 rfl info54s ((X.below (below_step s_lo (E.belowG hS))).cells))) ?_
          refine E.GJ.take1 (i := 15) rfl (by kernel_rfl) (by kernel_rfl) (by kernel_rfl) (by kernel_rfl) rfl (by kernel_rfl) (by kernel_rfl) (by intro c a d v w h; cases d <;> exact h) rfl rfl rfl (fun w' hS => (E.Runs.move rfl rfl)) ?_
          refine E.GJ.one (i := 7) (by kernel_rfl) (E.OJ.st rfl rfl rfl rfl (E.ST.call rfl ent31 (E.evc rfl (E.evc rfl E.evn)) ((light_r x h _ (hok x (List.mem_of_getElem? hx)) hh0 (by omega)).mono ?_)))
          rintro e w44 ⟨rfl, l44⟩
          refine ⟨_, rfl, (E.SJ.before (by kernel_rfl)).mpr (hh.trans (E.gbB l44)), ?_⟩
          replace hh := hh.trans (E.gbB l44)
          replace b2 := blk_below b2 l44
          replace b4 := blk_below b4 l44
          replace b8 := blk_below b8 l44
          replace L := below_step L l44
          replace lo := below_step lo l44
          replace gq := gq.trans (E.gbB l44)
          refine E.GJ.take1 (i := 8) rfl (by kernel_rfl) (by kernel_rfl) (by kernel_rfl) (by kernel_rfl) rfl (by kernel_rfl) (by kernel_rfl) (by intro c a d v w h; cases d <;> exact h) rfl rfl rfl (fun w' hS => (E.Runs.min rfl rfl rfl rfl)) ?_
          refine E.GJ.one (i := 16) (by kernel_rfl) (E.OJ.st rfl rfl rfl rfl (E.ST.call rfl ent31 (E.evc rfl (E.evc rfl E.evn)) ((light_r x h _ (hok x (List.mem_of_getElem? hx)) hh0 (by omega)).mono ?_)))
          rintro e w53 ⟨rfl, l53⟩
          refine ⟨_, rfl, (E.SJ.before (by kernel_rfl)).mpr (hh.trans (E.gbB l53)), ?_⟩
          replace hh := hh.trans (E.gbB l53)
          replace b2 := blk_below b2 l53
          replace b4 := blk_below b4 l53
          replace b8 := blk_below b8 l53
          replace L := below_step L l53
          replace lo := below_step lo l53
          replace gq := gq.trans (E.gbB l53)
          refine E.GJ.take1 (i := 17) rfl (by kernel_rfl) (by kernel_rfl) (by kernel_rfl) (by kernel_rfl) rfl (by kernel_rfl) (by kernel_rfl) (by intro c a d v w h; cases d <;> exact h) rfl rfl rfl (fun w' hS => (E.Runs.max rfl rfl rfl rfl)) ?_
          refine E.GJ.take1 (i := 18) rfl (by kernel_rfl) (by kernel_rfl) (by kernel_rfl) (by kernel_rfl) rfl (by kernel_rfl) (by kernel_rfl) (by intro c a d v w h; cases d <;> exact h) rfl rfl rfl (fun w' hS => (E.Runs.build rfl (E.epc rfl (E.epc rfl E.epn)) (build23 _ _))) ?_
          refine E.GJ.one (i := 19) (by kernel_rfl) (E.OJ.sn rfl rfl rfl (E.ST.storeS (off := 0) (cells := [.int .i64 (mn (spanT x0 ((truths M).take i) h).1 (light x h)), .int .i64 (mx (spanT x0 ((truths M).take i) h).2 (light x h))]) rfl rfl rfl b8 rfl info23s (two_one _ _) rfl fun wJ c8 lJ => ⟨(E.SJ.behind (by kernel_rfl)).mpr trivial, ?_⟩))
          replace b2 := blk_grown b2 lJ (E.nes (by first | assumption | exact Ne.symm (by assumption)))
          replace b4 := blk_grown b4 lJ (E.nes (by first | assumption | exact Ne.symm (by assumption)))
          replace L := E.below_own L h8_L lJ
          replace lo := E.below_own lo h8_lo lJ
          replace gq := gq.trans lJ
          replace b8 := c8
          clear c8
          refine E.GJ.done (by kernel_rfl) ?_
          refine E.QG.block_normal ?_
          refine E.QG.code ?_
          refine E.CG.list ?_
          refine E.GL.run rfl rfl rfl (E.Runs.move rfl rfl) ?_
          refine E.GL.run rfl rfl rfl (E.Runs.add rfl rfl rfl (IntWalk.i64_in _ (by omega))) ?_
          refine E.GL.run rfl rfl rfl (E.Runs.assign rfl rfl) ?_
          refine E.GL.done ?_
          exact E.QG.round (i + 1) (E.subc rfl (E.subc rfl (E.subc rfl (E.subc rfl (E.subc rfl E.subn))))) ⟨by omega, by rw [spanT_step hx]; exact b8, gq⟩ (by omega)
        · obtain rfl : i = (truths M).length := by omega
          refine E.GL.done ?_
          refine E.QG.code ?_
          refine E.CG.cond_f rfl ?_
          refine E.CG.exit ?_
          refine E.QG.pass_exit ?_
          refine E.QG.pass_exit ?_
          refine E.QG.block_here ?_
          refine E.QG.code ?_
          refine E.CG.seq ?_
          refine E.CG.list ?_
          refine E.GL.run rfl rfl rfl (E.Runs.loads (cs := [.int .i64 (spanT x0 ((truths M).take (truths M).length) h).1, .int .i64 (spanT x0 ((truths M).take (truths M).length) h).2]) rfl rfl hu23 rfl info23s (blk_cells b8)) ?_
          refine E.GL.store_whole rfl rfl rfl rfl rfl b4 rfl info23s (two_one _ _) fun wS9_1 c4 lS9_1 => ?_
          replace b2 := blk_grown b2 lS9_1 (E.nes (by first | assumption | exact Ne.symm (by assumption)))
          replace b8 := blk_grown b8 lS9_1 (E.nes (by first | assumption | exact Ne.symm (by assumption)))
          replace L := E.below_own L h4_L lS9_1
          replace b4 := c4
          clear c4
          refine E.GL.run rfl rfl rfl (E.Runs.assign rfl rfl) ?_
          refine E.GL.done ?_
          refine E.QG.code ?_
          refine E.CG.ret ?_
          exact E.QG.result_ct rfl rfl b4 hu23 rfl info23c rfl ⟨by rw [List.take_length]; unfold atV; rw [if_pos (by omega), show askE M h = 0 by omega, ← hx0], L⟩
      · refine E.GO.st rfl rfl rfl (E.ST.alloc rfl info23z fun g8 w8 e8 b8 l8 => ⟨hh.trans (E.gbB l8), ?_⟩)
        have hh0 := hh
        replace hh := hh.trans (E.gbB l8)
        have h8_hh : v4.heap.size ≤ g8 := by rw [e8]; exact hh0.size
        have h8_L : w.heap.size ≤ g8 := by rw [e8]; exact L.size
        have h8_lo : w13.heap.size ≤ g8 := by rw [e8]; exact lo.size
        have n8_b2 : g2 ≠ g8 := by have := blk_lt b2; omega
        have n8_b4 : g4 ≠ g8 := by have := blk_lt b4; omega
        clear hh0
        replace b2 := blk_below b2 l8
        replace b4 := blk_below b4 l8
        replace L := below_step L l8
        replace lo := below_step lo l8
        refine E.GH.one (i := 9) (by kernel_rfl) rfl ?_
        refine E.GO.st rfl rfl rfl (E.ST.call rfl ent31 (E.evc rfl (E.evc rfl E.evn)) ((light_r x0 h _ (hok x0 hm0) hh0 (by omega)).mono ?_))
        rintro e w29 ⟨rfl, l29⟩
        refine ⟨_, rfl, hh.trans (E.gbB l29), ?_⟩
        replace hh := hh.trans (E.gbB l29)
        replace b2 := blk_below b2 l29
        replace b4 := blk_below b4 l29
        replace b8 := blk_below b8 l29
        replace L := below_step L l29
        replace lo := below_step lo l29
        refine E.GH.take (i := 10) rfl (by kernel_rfl) (by kernel_rfl) (by kernel_rfl) (by intro c a d v w h; cases d <;> exact h) rfl rfl rfl (fun w' hS => (E.Runs.build rfl (E.epc rfl (E.epc rfl E.epn)) (build23 _ _))) ?_
        refine E.GH.one (i := 12) (by kernel_rfl) rfl ?_
        refine E.GO.sn rfl rfl (E.ST.storeS (off := 0) (cells := [.int .i64 (light x0 h), .int .i64 (light x0 h)]) rfl rfl rfl b8 rfl info23s (two_one _ _) rfl fun wS4_12 c8 lS4_12 => ⟨E.gb_own hh h8_hh lS4_12, ?_⟩)
        replace hh := E.gb_own hh h8_hh lS4_12
        replace b2 := blk_grown b2 lS4_12 (E.nes (by first | assumption | exact Ne.symm (by assumption)))
        replace b4 := blk_grown b4 lS4_12 (E.nes (by first | assumption | exact Ne.symm (by assumption)))
        replace L := E.below_own L h8_L lS4_12
        replace lo := E.below_own lo h8_lo lS4_12
        replace b8 := c8
        clear c8
        refine E.GH.done (by kernel_rfl) ?_
        refine E.QG.code ?_
        refine E.CG.seq ?_
        refine E.CG.seq ?_
        refine E.CG.list ?_
        refine E.GL.run rfl rfl rfl (E.Runs.assign rfl rfl) ?_
        refine E.GL.done ?_
        refine E.QG.code ?_
        refine E.CG.block ?_
        have s6_b2 := b2
        have s6_b4 := b4
        have s6_b8 := b8
        have s6_L := L
        have s6_lo := lo
        refine E.CG.loop (fun (i : Nat) => [(1, .int .i64 h), (4, .pointer (some ⟨g4, 0, none⟩)), (6, .slice A13 (truths M).length c13), (8, .pointer (some ⟨g8, 0, none⟩)), (9, .int .i64 i)]) (fun i w' => i ≤ (truths M).length ∧ w'.heap[g8]? = some (.cells #[.int .i64 (spanT x0 ((truths M).take i) h).1, .int .i64 (spanT x0 ((truths M).take i) h).2] 23 (0, 0)) ∧ wS4_12.grownBy w' (some g8)) (fun i => (truths M).length - i) 0 (E.subc rfl (E.subc rfl (E.subc rfl (E.subc rfl (E.subc rfl E.subn))))) ⟨Nat.zero_le _, b8, World.grownBy.refl _ _⟩ ?_
        rintro i w6 ⟨hi, b8, gq⟩
        replace b2 := blk_grown b2 gq (E.nes (by first | assumption | exact Ne.symm (by assumption)))
        replace b4 := blk_grown b4 gq (E.nes (by first | assumption | exact Ne.symm (by assumption)))
        replace L := E.below_own L h8_L gq
        replace lo := E.below_own lo h8_lo gq
        refine E.CG.seq ?_
        refine E.CG.seq ?_
        refine E.CG.list ?_
        refine E.GL.run rfl rfl rfl (E.Runs.move rfl rfl) ?_
        refine E.GL.run rfl rfl rfl (E.Runs.move rfl rfl) ?_
        refine E.GL.run rfl rfl rfl (E.Runs.len rfl rfl hu46) ?_
        refine E.GL.cmp rfl rfl rfl (fun _ h => (E.Runs.lss rfl rfl rfl h)) (fun h34 => ?_) (fun h34 => ?_)
        · obtain ⟨x, hx⟩ : ∃ x, (truths M)[i]? = some x := ⟨_, List.getElem?_eq_getElem (by omega)⟩
          obtain ⟨ad, eA, X⟩ := line_at C13 hx
          have hit : (i : Int) < (truths M).length := by omega
          refine E.GL.done ?_
          refine E.QG.code ?_
          refine E.CG.cond_t rfl ?_
          refine E.CG.skip ?_
          refine E.QG.code ?_
          refine E.CG.seq ?_
          refine E.CG.block ?_
          refine E.CG.heldJ 19 (fun v W => v.grownBy W none) (fun _ _ => True) (by kernel_rfl) (by kernel_rfl) (fun v => World.grownBy.refl _ _) fun v8 lD => ?_
          replace b2 := blk_below b2 lD
          replace b4 := blk_below b4 lD
          replace b8 := blk_below b8 lD
          replace L := below_step L lD
          replace lo := below_step lo lD
          replace gq := gq.trans (E.gbB lD)
          have lD8 := lD
          clear lD
          have s_b2 := b2
          have s_b4 := b4
          have s_b8 := b8
          have s_L := L
          have s_lo := lo
          have s_gq := gq
          have hh : v8.grownBy v8 none := World.grownBy.refl _ _
          refine E.GJ.take1 (i := 0) rfl (by kernel_rfl) (by kernel_rfl) (by kernel_rfl) (by kernel_rfl) rfl (by kernel_rfl) (by kernel_rfl) (by intro c a d v w h; cases d <;> exact h) rfl rfl rfl (fun w' hS => (E.Runs.fieldAddr rfl rfl hu23 rfl (by assumption) rfl)) ?_
          refine E.GJ.take1 (i := 1) rfl (by kernel_rfl) (by kernel_rfl) (by kernel_rfl) (by kernel_rfl) rfl (by kernel_rfl) (by kernel_rfl) (by intro c a d v w h; cases d <;> exact h) rfl rfl rfl (fun w' hS => (E.Runs.load rfl rfl hu3 (by first | exact E.keeps hS (E.blkc (by assumption) rfl) (by first | exact E.nen | exact E.nes (by assumption) | exact E.nes (Ne.symm (by assumption))) | exact pw_cell_below (below_step s_L (E.belowG hS)) (by assumption) | exact pw_cell_below (below_step s_lo (E.belowG hS)) (by assumption)))) ?_
          refine E.GJ.take1 (i := 2) rfl (by kernel_rfl) (by kernel_rfl) (by kernel_rfl) (by kernel_rfl) rfl (by kernel_rfl) (by kernel_rfl) (by intro c a d v w h; cases d <;> exact h) rfl rfl rfl (fun w' hS => (E.Runs.move rfl rfl)) ?_
          refine E.GJ.take1 (i := 3) rfl (by kernel_rfl) (by kernel_rfl) (by kernel_rfl) (by kernel_rfl) rfl (by kernel_rfl) (by kernel_rfl) (by intro c a d v w h; cases d <;> exact h) rfl rfl rfl (fun w' hS => (E.Runs.move rfl rfl)) ?_
          refine E.GJ.take1 (i := 4) rfl (by kernel_rfl) (by kernel_rfl) (by kernel_rfl) (by kernel_rfl) rfl (by kernel_rfl) (by kernel_rfl) (by intro c a d v w h; cases d <;> exact h) rfl rfl rfl (fun w' hS => (E.Runs.indexAddrA rfl rfl rfl hu46 (by assumption) (by assumption) (by assumption) (by first | rfl | assumption) rfl)) ?_
          refine E.GJ.take1 (i := 5) rfl (by kernel_rfl) (by kernel_rfl) (by kernel_rfl) (by kernel_rfl) rfl (by kernel_rfl) (by kernel_rfl) (by intro c a d v w h; cases d <;> exact h) rfl rfl rfl (fun w' hS => (E.Runs.loads (cs := [.int .i64 x.f0, .int .i64 x.f1]) rfl rfl hu54 rfl info54s ((X.below (below_step s_lo (E.belowG hS))).cells))) ?_
          refine E.GJ.take1 (i := 6) rfl (by kernel_rfl) (by kernel_rfl) (by kernel_rfl) (by kernel_rfl) rfl (by kernel_rfl) (by kernel_rfl) (by intro c a d v w h; cases d <;> exact h) rfl rfl rfl (fun w' hS => (E.Runs.move rfl rfl)) ?_
          refine E.GJ.take1 (i := 9) rfl (by kernel_rfl) (by kernel_rfl) (by kernel_rfl) (by kernel_rfl) rfl (by kernel_rfl) (by kernel_rfl) (by intro c a d v w h; cases d <;> exact h) rfl rfl rfl (fun w' hS => (E.Runs.fieldAddr rfl rfl hu23 rfl (by assumption) rfl)) ?_
          refine E.GJ.take1 (i := 10) rfl (by kernel_rfl) (by kernel_rfl) (by kernel_rfl) (by kernel_rfl) rfl (by kernel_rfl) (by kernel_rfl) (by intro c a d v w h; cases d <;> exact h) rfl rfl rfl (fun w' hS => (E.Runs.load rfl rfl hu3 (by first | exact E.keeps hS (E.blkc (by assumption) rfl) (by first | exact E.nen | exact E.nes (by assumption) | exact E.nes (Ne.symm (by assumption))) | exact pw_cell_below (below_step s_L (E.belowG hS)) (by assumption) | exact pw_cell_below (below_step s_lo (E.belowG hS)) (by assumption)))) ?_
          refine E.GJ.take1 (i := 11) rfl (by kernel_rfl) (by kernel_rfl) (by kernel_rfl) (by kernel_rfl) rfl (by kernel_rfl) (by kernel_rfl) (by intro c a d v w h; cases d <;> exact h) rfl rfl rfl (fun w' hS => (E.Runs.move rfl rfl)) ?_
          refine E.GJ.take1 (i := 12) rfl (by kernel_rfl) (by kernel_rfl) (by kernel_rfl) (by kernel_rfl) rfl (by kernel_rfl) (by kernel_rfl) (by intro c a d v w h; cases d <;> exact h) rfl rfl rfl (fun w' hS => (E.Runs.move rfl rfl)) ?_
          refine E.GJ.take1 (i := 13) rfl (by kernel_rfl) (by kernel_rfl) (by kernel_rfl) (by kernel_rfl) rfl (by kernel_rfl) (by kernel_rfl) (by intro c a d v w h; cases d <;> exact h) rfl rfl rfl (fun w' hS => (E.Runs.indexAddrA rfl rfl rfl hu46 (by assumption) (by assumption) (by assumption) (by first | rfl | assumption) rfl)) ?_
          refine E.GJ.take1 (i := 14) rfl (by kernel_rfl) (by kernel_rfl) (by kernel_rfl) (by kernel_rfl) rfl (by kernel_rfl) (by kernel_rfl) (by intro c a d v w h; cases d <;> exact h) rfl rfl rfl (fun w' hS => (E.Runs.loads (cs := [.int .i64 x.f0, .int .i64 x.f1]) rfl rfl hu54 rfl info54s ((X.below (below_step s_lo (E.belowG hS))).cells))) ?_
          refine E.GJ.take1 (i := 15) rfl (by kernel_rfl) (by kernel_rfl) (by kernel_rfl) (by kernel_rfl) rfl (by kernel_rfl) (by kernel_rfl) (by intro c a d v w h; cases d <;> exact h) rfl rfl rfl (fun w' hS => (E.Runs.move rfl rfl)) ?_
          refine E.GJ.one (i := 7) (by kernel_rfl) (E.OJ.st rfl rfl rfl rfl (E.ST.call rfl ent31 (E.evc rfl (E.evc rfl E.evn)) ((light_r x h _ (hok x (List.mem_of_getElem? hx)) hh0 (by omega)).mono ?_)))
          rintro e w44 ⟨rfl, l44⟩
          refine ⟨_, rfl, (E.SJ.before (by kernel_rfl)).mpr (hh.trans (E.gbB l44)), ?_⟩
          replace hh := hh.trans (E.gbB l44)
          replace b2 := blk_below b2 l44
          replace b4 := blk_below b4 l44
          replace b8 := blk_below b8 l44
          replace L := below_step L l44
          replace lo := below_step lo l44
          replace gq := gq.trans (E.gbB l44)
          refine E.GJ.take1 (i := 8) rfl (by kernel_rfl) (by kernel_rfl) (by kernel_rfl) (by kernel_rfl) rfl (by kernel_rfl) (by kernel_rfl) (by intro c a d v w h; cases d <;> exact h) rfl rfl rfl (fun w' hS => (E.Runs.min rfl rfl rfl rfl)) ?_
          refine E.GJ.one (i := 16) (by kernel_rfl) (E.OJ.st rfl rfl rfl rfl (E.ST.call rfl ent31 (E.evc rfl (E.evc rfl E.evn)) ((light_r x h _ (hok x (List.mem_of_getElem? hx)) hh0 (by omega)).mono ?_)))
          rintro e w53 ⟨rfl, l53⟩
          refine ⟨_, rfl, (E.SJ.before (by kernel_rfl)).mpr (hh.trans (E.gbB l53)), ?_⟩
          replace hh := hh.trans (E.gbB l53)
          replace b2 := blk_below b2 l53
          replace b4 := blk_below b4 l53
          replace b8 := blk_below b8 l53
          replace L := below_step L l53
          replace lo := below_step lo l53
          replace gq := gq.trans (E.gbB l53)
          refine E.GJ.take1 (i := 17) rfl (by kernel_rfl) (by kernel_rfl) (by kernel_rfl) (by kernel_rfl) rfl (by kernel_rfl) (by kernel_rfl) (by intro c a d v w h; cases d <;> exact h) rfl rfl rfl (fun w' hS => (E.Runs.max rfl rfl rfl rfl)) ?_
          refine E.GJ.take1 (i := 18) rfl (by kernel_rfl) (by kernel_rfl) (by kernel_rfl) (by kernel_rfl) rfl (by kernel_rfl) (by kernel_rfl) (by intro c a d v w h; cases d <;> exact h) rfl rfl rfl (fun w' hS => (E.Runs.build rfl (E.epc rfl (E.epc rfl E.epn)) (build23 _ _))) ?_
          refine E.GJ.one (i := 19) (by kernel_rfl) (E.OJ.sn rfl rfl rfl (E.ST.storeS (off := 0) (cells := [.int .i64 (mn (spanT x0 ((truths M).take i) h).1 (light x h)), .int .i64 (mx (spanT x0 ((truths M).take i) h).2 (light x h))]) rfl rfl rfl b8 rfl info23s (two_one _ _) rfl fun wJ c8 lJ => ⟨(E.SJ.behind (by kernel_rfl)).mpr trivial, ?_⟩))
          replace b2 := blk_grown b2 lJ (E.nes (by first | assumption | exact Ne.symm (by assumption)))
          replace b4 := blk_grown b4 lJ (E.nes (by first | assumption | exact Ne.symm (by assumption)))
          replace L := E.below_own L h8_L lJ
          replace lo := E.below_own lo h8_lo lJ
          replace gq := gq.trans lJ
          replace b8 := c8
          clear c8
          refine E.GJ.done (by kernel_rfl) ?_
          refine E.QG.block_normal ?_
          refine E.QG.code ?_
          refine E.CG.list ?_
          refine E.GL.run rfl rfl rfl (E.Runs.move rfl rfl) ?_
          refine E.GL.run rfl rfl rfl (E.Runs.add rfl rfl rfl (IntWalk.i64_in _ (by omega))) ?_
          refine E.GL.run rfl rfl rfl (E.Runs.assign rfl rfl) ?_
          refine E.GL.done ?_
          exact E.QG.round (i + 1) (E.subc rfl (E.subc rfl (E.subc rfl (E.subc rfl (E.subc rfl E.subn))))) ⟨by omega, by rw [spanT_step hx]; exact b8, gq⟩ (by omega)
        · obtain rfl : i = (truths M).length := by omega
          refine E.GL.done ?_
          refine E.QG.code ?_
          refine E.CG.cond_f rfl ?_
          refine E.CG.exit ?_
          refine E.QG.pass_exit ?_
          refine E.QG.pass_exit ?_
          refine E.QG.block_here ?_
          refine E.QG.code ?_
          refine E.CG.seq ?_
          refine E.CG.list ?_
          refine E.GL.run rfl rfl rfl (E.Runs.loads (cs := [.int .i64 (spanT x0 ((truths M).take (truths M).length) h).1, .int .i64 (spanT x0 ((truths M).take (truths M).length) h).2]) rfl rfl hu23 rfl info23s (blk_cells b8)) ?_
          refine E.GL.store_whole rfl rfl rfl rfl rfl b4 rfl info23s (two_one _ _) fun wS9_1 c4 lS9_1 => ?_
          replace b2 := blk_grown b2 lS9_1 (E.nes (by first | assumption | exact Ne.symm (by assumption)))
          replace b8 := blk_grown b8 lS9_1 (E.nes (by first | assumption | exact Ne.symm (by assumption)))
          replace L := E.below_own L h4_L lS9_1
          replace b4 := c4
          clear c4
          refine E.GL.run rfl rfl rfl (E.Runs.assign rfl rfl) ?_
          refine E.GL.done ?_
          refine E.QG.code ?_
          refine E.CG.ret ?_
          exact E.QG.result_ct rfl rfl b4 hu23 rfl info23c rfl ⟨by rw [List.take_length]; unfold atV; rw [if_pos (by omega), show askE M h = 0 by omega, ← hx0], L⟩
    · refine E.GO.st rfl rfl rfl (E.ST.alloc rfl info23z fun g8 w8 e8 b8 l8 => ⟨hh.trans (E.gbB l8), ?_⟩)
      have hh0 := hh
      replace hh := hh.trans (E.gbB l8)
      have h8_hh : v4.heap.size ≤ g8 := by rw [e8]; exact hh0.size
      have h8_L : w.heap.size ≤ g8 := by rw [e8]; exact L.size
      have h8_lo : w13.heap.size ≤ g8 := by rw [e8]; exact lo.size
      have n8_b2 : g2 ≠ g8 := by have := blk_lt b2; omega
      have n8_b4 : g4 ≠ g8 := by have := blk_lt b4; omega
      clear hh0
      replace b2 := blk_below b2 l8
      replace b4 := blk_below b4 l8
      replace L := below_step L l8
      replace lo := below_step lo l8
      refine E.GH.one (i := 4) (by kernel_rfl) rfl ?_
      refine E.GO.st rfl rfl rfl (E.ST.call rfl ent31 (E.evc rfl (E.evc rfl E.evn)) ((light_r x0 h _ (hok x0 hm0) hh0 (by omega)).mono ?_))
      rintro e w24 ⟨rfl, l24⟩
      refine ⟨_, rfl, hh.trans (E.gbB l24), ?_⟩
      replace hh := hh.trans (E.gbB l24)
      replace b2 := blk_below b2 l24
      replace b4 := blk_below b4 l24
      replace b8 := blk_below b8 l24
      replace L := below_step L l24
      replace lo := below_step lo l24
      refine E.GH.one (i := 9) (by kernel_rfl) rfl ?_
      refine E.GO.st rfl rfl rfl (E.ST.call rfl ent31 (E.evc rfl (E.evc rfl E.evn)) ((light_r x0 h _ (hok x0 hm0) hh0 (by omega)).mono ?_))
      rintro e w29 ⟨rfl, l29⟩
      refine ⟨_, rfl, hh.trans (E.gbB l29), ?_⟩
      replace hh := hh.trans (E.gbB l29)
      replace b2 := blk_below b2 l29
      replace b4 := blk_below b4 l29
      replace b8 := blk_below b8 l29
      replace L := below_step L l29
      replace lo := below_step lo l29
      refine E.GH.take (i := 10) rfl (by kernel_rfl) (by kernel_rfl) (by kernel_rfl) (by intro c a d v w h; cases d <;> exact h) rfl rfl rfl (fun w' hS => (E.Runs.build rfl (E.epc rfl (E.epc rfl E.epn)) (build23 _ _))) ?_
      refine E.GH.one (i := 12) (by kernel_rfl) rfl ?_
      refine E.GO.sn rfl rfl (E.ST.storeS (off := 0) (cells := [.int .i64 (light x0 h), .int .i64 (light x0 h)]) rfl rfl rfl b8 rfl info23s (two_one _ _) rfl fun wS4_12 c8 lS4_12 => ⟨E.gb_own hh h8_hh lS4_12, ?_⟩)
      replace hh := E.gb_own hh h8_hh lS4_12
      replace b2 := blk_grown b2 lS4_12 (E.nes (by first | assumption | exact Ne.symm (by assumption)))
      replace b4 := blk_grown b4 lS4_12 (E.nes (by first | assumption | exact Ne.symm (by assumption)))
      replace L := E.below_own L h8_L lS4_12
      replace lo := E.below_own lo h8_lo lS4_12
      replace b8 := c8
      clear c8
      refine E.GH.done (by kernel_rfl) ?_
      refine E.QG.code ?_
      refine E.CG.seq ?_
      refine E.CG.seq ?_
      refine E.CG.list ?_
      refine E.GL.run rfl rfl rfl (E.Runs.assign rfl rfl) ?_
      refine E.GL.done ?_
      refine E.QG.code ?_
      refine E.CG.block ?_
      have s6_b2 := b2
      have s6_b4 := b4
      have s6_b8 := b8
      have s6_L := L
      have s6_lo := lo
      refine E.CG.loop (fun (i : Nat) => [(1, .int .i64 h), (4, .pointer (some ⟨g4, 0, none⟩)), (6, .slice A13 (truths M).length c13), (8, .pointer (some ⟨g8, 0, none⟩)), (9, .int .i64 i)]) (fun i w' => i ≤ (truths M).length ∧ w'.heap[g8]? = some (.cells #[.int .i64 (spanT x0 ((truths M).take i) h).1, .int .i64 (spanT x0 ((truths M).take i) h).2] 23 (0, 0)) ∧ wS4_12.grownBy w' (some g8)) (fun i => (truths M).length - i) 0 (E.subc rfl (E.subc rfl (E.subc rfl (E.subc rfl (E.subc rfl E.subn))))) ⟨Nat.zero_le _, b8, World.grownBy.refl _ _⟩ ?_
      rintro i w6 ⟨hi, b8, gq⟩
      replace b2 := blk_grown b2 gq (E.nes (by first | assumption | exact Ne.symm (by assumption)))
      replace b4 := blk_grown b4 gq (E.nes (by first | assumption | exact Ne.symm (by assumption)))
      replace L := E.below_own L h8_L gq
      replace lo := E.below_own lo h8_lo gq
      refine E.CG.seq ?_
      refine E.CG.seq ?_
      refine E.CG.list ?_
      refine E.GL.run rfl rfl rfl (E.Runs.move rfl rfl) ?_
      refine E.GL.run rfl rfl rfl (E.Runs.move rfl rfl) ?_
      refine E.GL.run rfl rfl rfl (E.Runs.len rfl rfl hu46) ?_
      refine E.GL.cmp rfl rfl rfl (fun _ h => (E.Runs.lss rfl rfl rfl h)) (fun h34 => ?_) (fun h34 => ?_)
      · obtain ⟨x, hx⟩ : ∃ x, (truths M)[i]? = some x := ⟨_, List.getElem?_eq_getElem (by omega)⟩
        obtain ⟨ad, eA, X⟩ := line_at C13 hx
        have hit : (i : Int) < (truths M).length := by omega
        refine E.GL.done ?_
        refine E.QG.code ?_
        refine E.CG.cond_t rfl ?_
        refine E.CG.skip ?_
        refine E.QG.code ?_
        refine E.CG.seq ?_
        refine E.CG.block ?_
        refine E.CG.heldJ 19 (fun v W => v.grownBy W none) (fun _ _ => True) (by kernel_rfl) (by kernel_rfl) (fun v => World.grownBy.refl _ _) fun v8 lD => ?_
        replace b2 := blk_below b2 lD
        replace b4 := blk_below b4 lD
        replace b8 := blk_below b8 lD
        replace L := below_step L lD
        replace lo := below_step lo lD
        replace gq := gq.trans (E.gbB lD)
        have lD8 := lD
        clear lD
        have s_b2 := b2
        have s_b4 := b4
        have s_b8 := b8
        have s_L := L
        have s_lo := lo
        have s_gq := gq
        have hh : v8.grownBy v8 none := World.grownBy.refl _ _
        refine E.GJ.take1 (i := 0) rfl (by kernel_rfl) (by kernel_rfl) (by kernel_rfl) (by kernel_rfl) rfl (by kernel_rfl) (by kernel_rfl) (by intro c a d v w h; cases d <;> exact h) rfl rfl rfl (fun w' hS => (E.Runs.fieldAddr rfl rfl hu23 rfl (by assumption) rfl)) ?_
        refine E.GJ.take1 (i := 1) rfl (by kernel_rfl) (by kernel_rfl) (by kernel_rfl) (by kernel_rfl) rfl (by kernel_rfl) (by kernel_rfl) (by intro c a d v w h; cases d <;> exact h) rfl rfl rfl (fun w' hS => (E.Runs.load rfl rfl hu3 (by first | exact E.keeps hS (E.blkc (by assumption) rfl) (by first | exact E.nen | exact E.nes (by assumption) | exact E.nes (Ne.symm (by assumption))) | exact pw_cell_below (below_step s_L (E.belowG hS)) (by assumption) | exact pw_cell_below (below_step s_lo (E.belowG hS)) (by assumption)))) ?_
        refine E.GJ.take1 (i := 2) rfl (by kernel_rfl) (by kernel_rfl) (by kernel_rfl) (by kernel_rfl) rfl (by kernel_rfl) (by kernel_rfl) (by intro c a d v w h; cases d <;> exact h) rfl rfl rfl (fun w' hS => (E.Runs.move rfl rfl)) ?_
        refine E.GJ.take1 (i := 3) rfl (by kernel_rfl) (by kernel_rfl) (by kernel_rfl) (by kernel_rfl) rfl (by kernel_rfl) (by kernel_rfl) (by intro c a d v w h; cases d <;> exact h) rfl rfl rfl (fun w' hS => (E.Runs.move rfl rfl)) ?_
        refine E.GJ.take1 (i := 4) rfl (by kernel_rfl) (by kernel_rfl) (by kernel_rfl) (by kernel_rfl) rfl (by kernel_rfl) (by kernel_rfl) (by intro c a d v w h; cases d <;> exact h) rfl rfl rfl (fun w' hS => (E.Runs.indexAddrA rfl rfl rfl hu46 (by assumption) (by assumption) (by assumption) (by first | rfl | assumption) rfl)) ?_
        refine E.GJ.take1 (i := 5) rfl (by kernel_rfl) (by kernel_rfl) (by kernel_rfl) (by kernel_rfl) rfl (by kernel_rfl) (by kernel_rfl) (by intro c a d v w h; cases d <;> exact h) rfl rfl rfl (fun w' hS => (E.Runs.loads (cs := [.int .i64 x.f0, .int .i64 x.f1]) rfl rfl hu54 rfl info54s ((X.below (below_step s_lo (E.belowG hS))).cells))) ?_
        refine E.GJ.take1 (i := 6) rfl (by kernel_rfl) (by kernel_rfl) (by kernel_rfl) (by kernel_rfl) rfl (by kernel_rfl) (by kernel_rfl) (by intro c a d v w h; cases d <;> exact h) rfl rfl rfl (fun w' hS => (E.Runs.move rfl rfl)) ?_
        refine E.GJ.take1 (i := 9) rfl (by kernel_rfl) (by kernel_rfl) (by kernel_rfl) (by kernel_rfl) rfl (by kernel_rfl) (by kernel_rfl) (by intro c a d v w h; cases d <;> exact h) rfl rfl rfl (fun w' hS => (E.Runs.fieldAddr rfl rfl hu23 rfl (by assumption) rfl)) ?_
        refine E.GJ.take1 (i := 10) rfl (by kernel_rfl) (by kernel_rfl) (by kernel_rfl) (by kernel_rfl) rfl (by kernel_rfl) (by kernel_rfl) (by intro c a d v w h; cases d <;> exact h) rfl rfl rfl (fun w' hS => (E.Runs.load rfl rfl hu3 (by first | exact E.keeps hS (E.blkc (by assumption) rfl) (by first | exact E.nen | exact E.nes (by assumption) | exact E.nes (Ne.symm (by assumption))) | exact pw_cell_below (below_step s_L (E.belowG hS)) (by assumption) | exact pw_cell_below (below_step s_lo (E.belowG hS)) (by assumption)))) ?_
        refine E.GJ.take1 (i := 11) rfl (by kernel_rfl) (by kernel_rfl) (by kernel_rfl) (by kernel_rfl) rfl (by kernel_rfl) (by kernel_rfl) (by intro c a d v w h; cases d <;> exact h) rfl rfl rfl (fun w' hS => (E.Runs.move rfl rfl)) ?_
        refine E.GJ.take1 (i := 12) rfl (by kernel_rfl) (by kernel_rfl) (by kernel_rfl) (by kernel_rfl) rfl (by kernel_rfl) (by kernel_rfl) (by intro c a d v w h; cases d <;> exact h) rfl rfl rfl (fun w' hS => (E.Runs.move rfl rfl)) ?_
        refine E.GJ.take1 (i := 13) rfl (by kernel_rfl) (by kernel_rfl) (by kernel_rfl) (by kernel_rfl) rfl (by kernel_rfl) (by kernel_rfl) (by intro c a d v w h; cases d <;> exact h) rfl rfl rfl (fun w' hS => (E.Runs.indexAddrA rfl rfl rfl hu46 (by assumption) (by assumption) (by assumption) (by first | rfl | assumption) rfl)) ?_
        refine E.GJ.take1 (i := 14) rfl (by kernel_rfl) (by kernel_rfl) (by kernel_rfl) (by kernel_rfl) rfl (by kernel_rfl) (by kernel_rfl) (by intro c a d v w h; cases d <;> exact h) rfl rfl rfl (fun w' hS => (E.Runs.loads (cs := [.int .i64 x.f0, .int .i64 x.f1]) rfl rfl hu54 rfl info54s ((X.below (below_step s_lo (E.belowG hS))).cells))) ?_
        refine E.GJ.take1 (i := 15) rfl (by kernel_rfl) (by kernel_rfl) (by kernel_rfl) (by kernel_rfl) rfl (by kernel_rfl) (by kernel_rfl) (by intro c a d v w h; cases d <;> exact h) rfl rfl rfl (fun w' hS => (E.Runs.move rfl rfl)) ?_
        refine E.GJ.one (i := 7) (by kernel_rfl) (E.OJ.st rfl rfl rfl rfl (E.ST.call rfl ent31 (E.evc rfl (E.evc rfl E.evn)) ((light_r x h _ (hok x (List.mem_of_getElem? hx)) hh0 (by omega)).mono ?_)))
        rintro e w44 ⟨rfl, l44⟩
        refine ⟨_, rfl, (E.SJ.before (by kernel_rfl)).mpr (hh.trans (E.gbB l44)), ?_⟩
        replace hh := hh.trans (E.gbB l44)
        replace b2 := blk_below b2 l44
        replace b4 := blk_below b4 l44
        replace b8 := blk_below b8 l44
        replace L := below_step L l44
        replace lo := below_step lo l44
        replace gq := gq.trans (E.gbB l44)
        refine E.GJ.take1 (i := 8) rfl (by kernel_rfl) (by kernel_rfl) (by kernel_rfl) (by kernel_rfl) rfl (by kernel_rfl) (by kernel_rfl) (by intro c a d v w h; cases d <;> exact h) rfl rfl rfl (fun w' hS => (E.Runs.min rfl rfl rfl rfl)) ?_
        refine E.GJ.one (i := 16) (by kernel_rfl) (E.OJ.st rfl rfl rfl rfl (E.ST.call rfl ent31 (E.evc rfl (E.evc rfl E.evn)) ((light_r x h _ (hok x (List.mem_of_getElem? hx)) hh0 (by omega)).mono ?_)))
        rintro e w53 ⟨rfl, l53⟩
        refine ⟨_, rfl, (E.SJ.before (by kernel_rfl)).mpr (hh.trans (E.gbB l53)), ?_⟩
        replace hh := hh.trans (E.gbB l53)
        replace b2 := blk_below b2 l53
        replace b4 := blk_below b4 l53
        replace b8 := blk_below b8 l53
        replace L := below_step L l53
        replace lo := below_step lo l53
        replace gq := gq.trans (E.gbB l53)
        refine E.GJ.take1 (i := 17) rfl (by kernel_rfl) (by kernel_rfl) (by kernel_rfl) (by kernel_rfl) rfl (by kernel_rfl) (by kernel_rfl) (by intro c a d v w h; cases d <;> exact h) rfl rfl rfl (fun w' hS => (E.Runs.max rfl rfl rfl rfl)) ?_
        refine E.GJ.take1 (i := 18) rfl (by kernel_rfl) (by kernel_rfl) (by kernel_rfl) (by kernel_rfl) rfl (by kernel_rfl) (by kernel_rfl) (by intro c a d v w h; cases d <;> exact h) rfl rfl rfl (fun w' hS => (E.Runs.build rfl (E.epc rfl (E.epc rfl E.epn)) (build23 _ _))) ?_
        refine E.GJ.one (i := 19) (by kernel_rfl) (E.OJ.sn rfl rfl rfl (E.ST.storeS (off := 0) (cells := [.int .i64 (mn (spanT x0 ((truths M).take i) h).1 (light x h)), .int .i64 (mx (spanT x0 ((truths M).take i) h).2 (light x h))]) rfl rfl rfl b8 rfl info23s (two_one _ _) rfl fun wJ c8 lJ => ⟨(E.SJ.behind (by kernel_rfl)).mpr trivial, ?_⟩))
        replace b2 := blk_grown b2 lJ (E.nes (by first | assumption | exact Ne.symm (by assumption)))
        replace b4 := blk_grown b4 lJ (E.nes (by first | assumption | exact Ne.symm (by assumption)))
        replace L := E.below_own L h8_L lJ
        replace lo := E.below_own lo h8_lo lJ
        replace gq := gq.trans lJ
        replace b8 := c8
        clear c8
        refine E.GJ.done (by kernel_rfl) ?_
        refine E.QG.block_normal ?_
        refine E.QG.code ?_
        refine E.CG.list ?_
        refine E.GL.run rfl rfl rfl (E.Runs.move rfl rfl) ?_
        refine E.GL.run rfl rfl rfl (E.Runs.add rfl rfl rfl (IntWalk.i64_in _ (by omega))) ?_
        refine E.GL.run rfl rfl rfl (E.Runs.assign rfl rfl) ?_
        refine E.GL.done ?_
        exact E.QG.round (i + 1) (E.subc rfl (E.subc rfl (E.subc rfl (E.subc rfl (E.subc rfl E.subn))))) ⟨by omega, by rw [spanT_step hx]; exact b8, gq⟩ (by omega)
      · obtain rfl : i = (truths M).length := by omega
        refine E.GL.done ?_
        refine E.QG.code ?_
        refine E.CG.cond_f rfl ?_
        refine E.CG.exit ?_
        refine E.QG.pass_exit ?_
        refine E.QG.pass_exit ?_
        refine E.QG.block_here ?_
        refine E.QG.code ?_
        refine E.CG.seq ?_
        refine E.CG.list ?_
        refine E.GL.run rfl rfl rfl (E.Runs.loads (cs := [.int .i64 (spanT x0 ((truths M).take (truths M).length) h).1, .int .i64 (spanT x0 ((truths M).take (truths M).length) h).2]) rfl rfl hu23 rfl info23s (blk_cells b8)) ?_
        refine E.GL.store_whole rfl rfl rfl rfl rfl b4 rfl info23s (two_one _ _) fun wS9_1 c4 lS9_1 => ?_
        replace b2 := blk_grown b2 lS9_1 (E.nes (by first | assumption | exact Ne.symm (by assumption)))
        replace b8 := blk_grown b8 lS9_1 (E.nes (by first | assumption | exact Ne.symm (by assumption)))
        replace L := E.below_own L h4_L lS9_1
        replace b4 := c4
        clear c4
        refine E.GL.run rfl rfl rfl (E.Runs.assign rfl rfl) ?_
        refine E.GL.done ?_
        refine E.QG.code ?_
        refine E.CG.ret ?_
        exact E.QG.result_ct rfl rfl b4 hu23 rfl info23c rfl ⟨by rw [List.take_length]; unfold atV; rw [if_pos (by omega), show askE M h = 0 by omega, ← hx0], L⟩

end Go.Proofs.Ytbajpjnloikpdaa.T
