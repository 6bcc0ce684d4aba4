/- LampSeason: what the changes are, in plain words; the walk of shown. -/
import Derived.Test.YtbajpjnloikpdaaP12
import Derived.Test.YtbajpjnloikpdaaP13
namespace Go.Proofs.Ytbajpjnloikpdaa.T
open Go.RowKit Go.Proofs.YtbajpjnloikpdaaW.PrintWords Go.Proofs.YtbajpjnloikpdaaW.PrintMore
open Go.Proofs.Ytbajpjnloikpdaa.P
set_option linter.unusedVariables false
set_option linter.unusedSimpArgs false

theorem info43s : (Try.prog.info? 43).map (·.size) = some 3 := by kernel_rfl
/-- Each day can be shown with these changes. -/
def shw (S : List Ln → Int → Int → Prop) (fr : List Ln) : List Ln → Int → List Int → Int → List Int → Prop
  | _, _, [], _, ch => ch = []
  | t, b, x :: r, d, ch => (ch.head? = some d ∧ S fr 0 x ∧ shw S fr fr (0 + x) r (d + 1) ch.tail) ∨ (¬ ch.head? = some d ∧ S t b x ∧ shw S fr t (b + x) r (d + 1) ch)
theorem head_drop {k : List Int} {n : Nat} : (k.drop n).head? = k[n]? := by rw [List.head?_drop]
theorem shw_new {S : List Ln → Int → Int → Prop} {fr t : List Ln} {b d x : Int} {l k : List Int} {i n : Nat} (hx : l[i]? = some x) (hk : k[n]? = some d) : shw S fr t b (l.drop i) d (k.drop n) ↔ S fr 0 x ∧ shw S fr fr (0 + x) (l.drop (i + 1)) (d + 1) (k.drop (n + 1)) := by
  rw [drop_cons hx]
  simp only [shw, head_drop, hk, List.tail_drop, true_and, not_true_eq_false, false_and, or_false]
theorem shw_same {S : List Ln → Int → Int → Prop} {fr t : List Ln} {b d x : Int} {l k : List Int} {i n : Nat} (hx : l[i]? = some x) (hk : ¬ k[n]? = some d) : shw S fr t b (l.drop i) d (k.drop n) ↔ S t b x ∧ shw S fr t (b + x) (l.drop (i + 1)) (d + 1) (k.drop n) := by
  rw [drop_cons hx]
  simp only [shw, head_drop, hk, false_and, not_false_eq_true, true_and, false_or]
section
variable {S : List Ln → Int → Int → Prop} {fr : List Ln}
theorem chg_ge : ∀ {r : List Int} {t : List Ln} {b d : Int} {o : List Int}, chg S fr t b r d = some o → ∀ y ∈ o, d ≤ y
  | [], t, b, d, o, h, y, hy => by simp only [chg, Option.some.injEq] at h; subst h; cases hy
  | x :: r, t, b, d, o, h, y, hy => by
    rw [chg_cons] at h
    split at h
    · cases h
    · split at h
      · have := chg_ge h y hy
        omega
      · rw [Option.map_eq_some_iff] at h
        obtain ⟨o', h1, rfl⟩ := h
        rcases List.mem_cons.mp hy with rfl | hy
        · omega
        · have := chg_ge h1 y hy
          omega
theorem head_ne {o : List Int} {d : Int} (h : ∀ y ∈ o, d + 1 ≤ y) : ¬ o.head? = some d := by
  cases o with
  | nil => simp
  | cons a o =>
    intro e
    have := h a List.mem_cons_self
    simp only [List.head?_cons, Option.some.injEq] at e
    omega
/-- With the changes that are found each day can be shown. -/
theorem chg_shows : ∀ {r : List Int} {t : List Ln} {b d : Int} {o : List Int}, chg S fr t b r d = some o → shw S fr t b r d o
  | [], t, b, d, o, h => by simp only [chg, Option.some.injEq] at h; exact h.symm
  | x :: r, t, b, d, o, h => by
    rw [chg_cons] at h
    split at h
    · cases h
    · next q =>
      split at h
      · next k => exact .inr ⟨head_ne (chg_ge h), k, chg_shows h⟩
      · rw [Option.map_eq_some_iff] at h
        obtain ⟨o', h1, rfl⟩ := h
        refine .inl ⟨rfl, Classical.not_not.mp q, ?_⟩
        rw [Int.zero_add]
        exact chg_shows h1
/-- A change a day later: some day cannot be shown. -/
theorem chg_later : ∀ {r : List Int} {t : List Ln} {b d : Int} {o : List Int}, chg S fr t b r d = some o → ∀ (i : Nat) (y : Int), o[i]? = some y → ¬ shw S fr t b r d (o.set i (y + 1))
  | [], t, b, d, o, h, i, y, hy => by simp only [chg, Option.some.injEq] at h; subst h; simp at hy
  | x :: r, t, b, d, o, h, i, y, hy => by
    rw [chg_cons] at h
    split at h
    · cases h
    · next q =>
      split at h
      · next k =>
        rintro (⟨h1, _⟩ | ⟨_, _, h3⟩)
        · refine head_ne (o := o.set i (y + 1)) (fun z hz => ?_) h1
          rcases List.mem_or_eq_of_mem_set hz with hz | rfl
          · exact chg_ge h z hz
          · have := chg_ge h y (List.mem_of_getElem? hy)
            omega
        · exact chg_later h i y hy h3
      · next k =>
        rw [Option.map_eq_some_iff] at h
        obtain ⟨o', h1, rfl⟩ := h
        cases i with
        | zero =>
          obtain rfl : d = y := by simpa using hy
          rintro (⟨h4, _⟩ | ⟨_, h4, _⟩)
          · simp only [List.set_cons_zero, List.head?_cons, Option.some.injEq] at h4
            omega
          · exact k h4
        | succ i =>
          rintro (⟨_, _, h4⟩ | ⟨h4, _⟩)
          · rw [Int.zero_add] at h4
            exact chg_later h1 i y (by simpa using hy) (by simpa using h4)
          · exact h4 (by simp)
/-- No other changes are fewer. -/
theorem chg_least (hm : ∀ b b' x : Int, 0 ≤ b → b ≤ b' → 0 ≤ x → S fr 0 x → S fr b' x → S fr b x) : ∀ (r : List Int), (∀ x ∈ r, 0 ≤ x) → ∀ (d : Int) (o ch : List Int) (t : List Ln) (b b' : Int), 0 ≤ b' →
    (chg S fr t b r d = some o → shw S fr t b r d ch → o.length ≤ ch.length) ∧ (0 ≤ b → b ≤ b' → chg S fr fr b r d = some o → shw S fr fr b' r d ch → o.length ≤ ch.length) ∧ (chg S fr t b r d = some o → shw S fr fr b' r d ch → o.length ≤ ch.length + 1)
  | [], _, d, o, ch, t, b, b', _ => by
    refine ⟨fun h _ => ?_, fun _ _ h _ => ?_, fun h _ => ?_⟩ <;> (simp only [chg, Option.some.injEq] at h; subst h; simp)
  | x :: r, hr, d, o, ch, t, b, b', hb => by
    have hx := hr x List.mem_cons_self
    have ih := chg_least hm r (fun y hy => hr y (List.mem_cons_of_mem _ hy)) (d + 1)
    have ht : ch.head? = some d → ch.tail.length + 1 = ch.length := fun e => by
      cases ch with
      | nil => cases e
      | cons a ch => rfl
    refine ⟨fun h k => ?_, fun hb0 hbb h k => ?_, fun h k => ?_⟩
    · rw [chg_cons] at h
      split at h
      · cases h
      · split at h
        · next q =>
          rcases k with ⟨k1, k2, k3⟩ | ⟨k1, k2, k3⟩
          · have := (ih o ch.tail t (b + x) (0 + x) (by omega)).2.2 h k3
            have := ht k1
            omega
          · exact (ih o ch t (b + x) 0 (by omega)).1 h k3
        · next q =>
          rw [Option.map_eq_some_iff] at h
          obtain ⟨o', h1, rfl⟩ := h
          rcases k with ⟨k1, k2, k3⟩ | ⟨k1, k2, k3⟩
          · rw [Int.zero_add] at k3
            have := (ih o' ch.tail fr x x hx).1 h1 k3
            have := ht k1
            simp only [List.length_cons]
            omega
          · exact absurd k2 q
    · rw [chg_cons] at h
      split at h
      · cases h
      · next z =>
        split at h
        · next q =>
          rcases k with ⟨k1, k2, k3⟩ | ⟨k1, k2, k3⟩
          · have := (ih o ch.tail fr (b + x) (0 + x) (by omega)).2.2 h k3
            have := ht k1
            omega
          · exact (ih o ch fr (b + x) (b' + x) (by omega)).2.1 (by omega) (by omega) h k3
        · next q =>
          rw [Option.map_eq_some_iff] at h
          obtain ⟨o', h1, rfl⟩ := h
          rcases k with ⟨k1, k2, k3⟩ | ⟨k1, k2, k3⟩
          · rw [Int.zero_add] at k3
            have := (ih o' ch.tail fr x x hx).1 h1 k3
            have := ht k1
            simp only [List.length_cons]
            omega
          · exact absurd (hm b b' x hb0 hbb hx (Classical.not_not.mp z) k2) q
    · rw [chg_cons] at h
      split at h
      · cases h
      · split at h
        · next q =>
          rcases k with ⟨k1, k2, k3⟩ | ⟨k1, k2, k3⟩
          · have := (ih o ch.tail t (b + x) (0 + x) (by omega)).2.2 h k3
            have := ht k1
            omega
          · exact (ih o ch t (b + x) (b' + x) (by omega)).2.2 h k3
        · next q =>
          rw [Option.map_eq_some_iff] at h
          obtain ⟨o', h1, rfl⟩ := h
          rcases k with ⟨k1, k2, k3⟩ | ⟨k1, k2, k3⟩
          · rw [Int.zero_add] at k3
            have := (ih o' ch.tail fr x x hx).1 h1 k3
            have := ht k1
            simp only [List.length_cons]
            omega
          · have := (ih o' ch fr x (b' + x) (by omega)).2.1 hx (by omega) h1 k3
            simp only [List.length_cons]
            omega
theorem chg_none_bad : ∀ {r : List Int} {t : List Ln} {b d : Int}, chg S fr t b r d = none → ∃ x ∈ r, ¬ S fr 0 x
  | [], t, b, d, h => by simp [chg] at h
  | x :: r, t, b, d, h => by
    rw [chg_cons] at h
    split at h
    · next q => exact ⟨x, List.mem_cons_self, q⟩
    · split at h
      · obtain ⟨y, hy, k⟩ := chg_none_bad h
        exact ⟨y, List.mem_cons_of_mem _ hy, k⟩
      · rw [Option.map_eq_none_iff] at h
        obtain ⟨y, hy, k⟩ := chg_none_bad h
        exact ⟨y, List.mem_cons_of_mem _ hy, k⟩
end
/-- A new lamp shows what it could show later. -/
theorem show_mono {a c ra : Int} {t : List Ln} (ht : ∀ x ∈ t, PtOk x) (b b' x : Int) (h0 : 0 ≤ b) (h1 : b ≤ b') (h2 : 0 ≤ x) (k0 : showT a c ra t 0 x) (k : showT a c ra t b' x) : showT a c ra t b x := by
  refine ⟨k.1, by have := k.2.1; omega, fun h q1 q2 => keepsT_one.mpr fun y hy => ?_⟩
  have e0 := keepsT_one.mp (k0.2.2 0 (by omega) (by omega)) y hy
  have e1 := keepsT_one.mp (k.2.2 (b' + x) (by omega) (by omega)) y hy
  have f0 := light_fades (ht y hy) (show (0 : Int) ≤ h by omega)
  have f1 := light_fades (ht y hy) (show h ≤ b' + x by omega)
  exact ⟨by have := e1.1; omega, by have := e0.2; omega⟩
/-- Where shown stands. -/
structure Sn where
  t : List Ln
  A : Option Addr
  c : Nat
  b : Int
  n : Nat
theorem drop_nil {k : List Int} {n : Nat} (h : n ≤ k.length) : k.drop n = [] ↔ (n : Int) = (k.length : Int) := by
  rw [List.drop_eq_nil_iff]
  omega
set_option maxRecDepth 100000 in
set_option maxHeartbeats 8000000 in

theorem shown_calls (M : Lm) (A Ad Ac Ak : Option Addr) (c cd nc cc ck : Nat) (b : Int) (l k : List Int) (w : World) (r : Bool) (hb : r = true ↔ shw (showT M.nl M.nh M.ra) (pairs M) (truths M) b l 0 k) (hV : LampOk M) (hB : inR b 0 40) (hD : DaysOk l) (hr : Kd.C k64 w A M.gs.length M.gs) (hd : Kd.C kI w Ad l.length l) (hk : Kd.C kI w Ak k.length k) (hn : l.length ≤ 1000000) (hn2 : k.length ≤ 1000000) :
    Calls Try.prog 25 #[lv M A c, .agg #[.int .i64 b, .slice Ad l.length cd, .slice Ac nc cc], .slice Ak k.length ck] w fun e w' => e = .returned (.bool r) ∧ Below w.heap.size w w' := by
  have hu3 := Try.underlying3
  have hu26 := Try.underlying26
  have hu27 := Try.underlying27
  have hu43 := Try.underlying43
  have hu46 := Try.underlying46
  obtain ⟨z3, o3⟩ := info_some info3s (by decide)
  obtain ⟨z27, o27⟩ := info_some info27s (by decide)
  refine E.enter (N := 59) Try.func25 rfl Try.ntmps25 (args := [lv M A c, .agg #[.int .i64 b, .slice Ad l.length cd, .slice Ac nc cc], .slice Ak k.length ck]) (by simp) ?_
  have L := Below.refl w.heap.size w
  refine E.CG.seq ?_
  refine E.CG.list ?_
  refine E.GL.st rfl rfl rfl (E.ST.box rfl rfl fun g3 w3 e3 b3 l3 => ?_)
  have h3_L : w.heap.size ≤ g3 := by rw [e3]; exact L.size
  replace L := below_step L l3
  refine E.GL.st rfl rfl rfl (E.ST.box rfl rfl fun g4 w4 e4 b4 l4 => ?_)
  have h4_L : w.heap.size ≤ g4 := by rw [e4]; exact L.size
  have n4_b3 : g3 ≠ g4 := by have := blk_lt b3; omega
  replace b3 := blk_below b3 l4
  replace L := below_step L l4
  refine E.GL.run rfl rfl rfl (E.Runs.assign rfl rfl) ?_
  refine E.GL.done ?_
  refine E.QG.code ?_
  refine E.CG.seq ?_
  refine E.CG.heldH (none) (by kernel_rfl) fun v1 lD hh => ?_
  replace b3 := blk_below b3 lD
  replace b4 := blk_below b4 lD
  replace L := below_step L lD
  clear lD
  have s_b3 := b3
  have s_b4 := b4
  have s_L := L
  refine E.GH.take (i := 0) rfl (by kernel_rfl) (by kernel_rfl) (by kernel_rfl) (by intro c a d v w h; cases d <;> exact h) rfl rfl rfl (fun w' hS => (E.Runs.loads (cs := [.int .i64 M.fl, .int .i64 M.fh, .int .i64 M.al, .int .i64 M.ah, .int .i64 M.nl, .int .i64 M.nh, .int .i64 M.ra, .slice A M.gs.length c, .int .i64 M.wr]) rfl rfl hu26 rfl info26s (blk_cells (blk_grown s_b3 hS E.nen)))) ?_
  refine E.GH.take (i := 2) rfl (by kernel_rfl) (by kernel_rfl) (by kernel_rfl) (by intro c a d v w h; cases d <;> exact h) rfl rfl rfl (fun w' hS => (E.Runs.fieldAddr rfl rfl hu43 rfl (by assumption) rfl)) ?_
  refine E.GH.take (i := 3) rfl (by kernel_rfl) (by kernel_rfl) (by kernel_rfl) (by intro c a d v w h; cases d <;> exact h) rfl rfl rfl (fun w' hS => (E.Runs.load rfl rfl hu3 (by first | exact E.keeps hS (E.blkc (by assumption) rfl) (by first | exact E.nen | exact E.nes (by assumption) | exact E.nes (Ne.symm (by assumption))) | exact pw_cell_below (below_step s_L (E.belowG hS)) (by assumption)))) ?_
  refine E.GH.one (i := 1) (by kernel_rfl) rfl ?_
  refine E.GO.st rfl rfl rfl (E.ST.call rfl ent48 (E.evc rfl E.evn) ((old_calls M A c _ hV (Kd.C_below hr L)).mono ?_))
  rintro e w12 ⟨v12, rfl, R12, l12⟩
  refine ⟨_, rfl, hh.trans (E.gbB l12), ?_⟩
  replace hh := hh.trans (E.gbB l12)
  replace b3 := blk_below b3 l12
  replace b4 := blk_below b4 l12
  replace L := below_step L l12
  obtain ⟨A12, c12, hv12⟩ := Kd.R_slice R12
  subst hv12
  obtain ⟨_, _, C12⟩ := Kd.R_reads' R12
  refine E.GH.take (i := 4) rfl (by kernel_rfl) (by kernel_rfl) (by kernel_rfl) (by intro c a d v w h; cases d <;> exact h) rfl rfl rfl (fun w' hS => (E.Runs.assign rfl rfl)) ?_
  refine E.GH.take (i := 5) rfl (by kernel_rfl) (by kernel_rfl) (by kernel_rfl) (by intro c a d v w h; cases d <;> exact h) rfl rfl rfl (fun w' hS => (E.Runs.assign rfl rfl)) ?_
  refine E.GH.take (i := 6) rfl (by kernel_rfl) (by kernel_rfl) (by kernel_rfl) (by intro c a d v w h; cases d <;> exact h) rfl rfl rfl (fun w' hS => (E.Runs.assign rfl rfl)) ?_
  refine E.GH.done (by kernel_rfl) ?_
  refine E.QG.code ?_
  refine E.CG.seq ?_
  refine E.CG.seq ?_
  refine E.CG.list ?_
  refine E.GL.run rfl rfl rfl (E.Runs.assign rfl rfl) ?_
  refine E.GL.done ?_
  refine E.QG.code ?_
  refine E.CG.block ?_
  have hf12 := truths_few hV.1
  have hfp := pairs_few hV.1
  have hra : M.ra ≤ 40 := hV.1.2.2.2.1.2
  have s3_b3 := b3
  have s3_b4 := b4
  have s3_L := L
  refine E.CG.loop2 (fun (i : Nat) (s : Sn) => [(2, .slice Ak k.length ck), (3, .pointer (some ⟨g3, 0, none⟩)), (4, .pointer (some ⟨g4, 0, none⟩)), (7, .slice s.A s.t.length s.c), (8, .int .i64 s.b), (9, .int .i64 s.n), (10, .int .i64 i)]) (fun i s w' => i ≤ l.length ∧ s.n ≤ k.length ∧ Below w12.heap.size w12 w' ∧ Kd.C kL w' s.A s.t.length s.t ∧ (∀ y ∈ s.t, PtOk y) ∧ s.t.length ≤ 4010 ∧ (0 ≤ s.b ∧ s.b ≤ 40) ∧ (shw (showT M.nl M.nh M.ra) (pairs M) (truths M) b l 0 k ↔ shw (showT M.nl M.nh M.ra) (pairs M) s.t s.b (l.drop i) i (k.drop s.n))) (fun i s => l.length - i) 0 ⟨truths M, A12, c12, b, 0⟩ (E.subc rfl (E.subc rfl (E.subc rfl (E.subc rfl (E.subc rfl (E.subc rfl (E.subc rfl E.subn))))))) ⟨Nat.zero_le _, Nat.zero_le _, Below.refl _ _, C12, fun y hy => truths_ok hV.1 hy, hf12, hB, Iff.rfl⟩ ?_
  rintro i s w3 ⟨hi, hn3, lr, hC, hok, hl40, hb40, hinv⟩
  replace b3 := blk_below b3 lr
  replace b4 := blk_below b4 lr
  replace L := below_step L lr
  have lw := Below.refl w3.heap.size w3
  refine E.CG.seq ?_
  refine E.CG.seq ?_
  refine E.CG.list ?_
  refine E.GL.run rfl rfl rfl (E.Runs.move rfl rfl) ?_
  refine E.GL.run rfl rfl rfl (E.Runs.fieldAddr rfl rfl hu43 rfl (by assumption) rfl) ?_
  refine E.GL.run rfl rfl rfl (E.Runs.load1 rfl rfl hu27 rfl (by first | assumption | exact E.blkc (by assumption) rfl | exact pw_cell_below L (by assumption) | exact pw_cell_below lr (by assumption) | exact pw_cell_below lw (by assumption))) ?_
  refine E.GL.run rfl rfl rfl (E.Runs.len rfl rfl hu27) ?_
  refine E.GL.cmp rfl rfl rfl (fun _ h => (E.Runs.lss rfl rfl rfl h)) (fun h19 => ?_) (fun h19 => ?_)
  · obtain ⟨x, hx⟩ : ∃ x, l[i]? = some x := ⟨_, List.getElem?_eq_getElem (by omega)⟩
    obtain ⟨ad, eA, X⟩ := int_at hd hx
    have hxd := hD x (List.mem_of_getElem? hx)
    have hx0 := hxd.1
    have hx4 := hxd.2
    have hil : (i : Int) < l.length := by omega
    refine E.GL.done ?_
    refine E.QG.code ?_
    refine E.CG.cond_t rfl ?_
    refine E.CG.skip ?_
    refine E.QG.code ?_
    refine E.CG.seq ?_
    refine E.CG.block ?_
    refine E.CG.seq ?_
    refine E.CG.seq ?_
    refine E.CG.list ?_
    refine E.GL.run rfl rfl rfl (E.Runs.move rfl rfl) ?_
    refine E.GL.run rfl rfl rfl (E.Runs.move rfl rfl) ?_
    refine E.GL.run rfl rfl rfl (E.Runs.len rfl rfl hu27) ?_
    refine E.GL.cmp rfl rfl rfl (fun _ h => (E.Runs.lss rfl rfl rfl h)) (fun h25 => ?_) (fun h25 => ?_)
    · obtain ⟨y, hy⟩ : ∃ y, k[s.n]? = some y := ⟨_, List.getElem?_eq_getElem (by omega)⟩
      obtain ⟨ay, eY, Y⟩ := int_at hk hy
      have hnk : (s.n : Int) < k.length := by omega
      refine E.GL.run rfl rfl rfl (E.Runs.move rfl rfl) ?_
      refine E.GL.run rfl rfl rfl (E.Runs.move rfl rfl) ?_
      refine E.GL.run rfl rfl rfl (E.Runs.move rfl rfl) ?_
      refine E.GL.run rfl rfl rfl (E.Runs.indexAddrA rfl rfl rfl hu27 (by assumption) (by assumption) (by assumption) (by first | rfl | assumption) rfl) ?_
      refine E.GL.run rfl rfl rfl (E.Runs.load rfl rfl hu3 (by first | assumption | exact E.blkc (by assumption) rfl | exact pw_cell_below L (by assumption) | exact pw_cell_below lr (by assumption) | exact pw_cell_below lw (by assumption))) ?_
      refine E.GL.run rfl rfl rfl (E.Runs.move rfl rfl) ?_
      refine E.GL.cmp rfl rfl rfl (fun _ h => (E.Runs.eql rfl rfl rfl h)) (fun h32 => ?_) (fun h32 => ?_)
      · have hst := shw_new (S := (showT M.nl M.nh M.ra)) (fr := pairs M) (t := s.t) (b := s.b) (d := (i : Int)) hx (hy.trans (congrArg some h32))
        refine E.GL.run rfl rfl rfl (E.Runs.pick_t rfl rfl rfl) ?_
        refine E.GL.done ?_
        refine E.QG.code ?_
        refine E.CG.cond_t rfl ?_
        refine E.CG.seq ?_
        refine E.CG.list ?_
        refine E.GL.run rfl rfl rfl (E.Runs.loads (cs := [.int .i64 M.fl, .int .i64 M.fh, .int .i64 M.al, .int .i64 M.ah, .int .i64 M.nl, .int .i64 M.nh, .int .i64 M.ra, .slice A M.gs.length c, .int .i64 M.wr]) rfl rfl hu26 rfl info26s (blk_cells b3)) ?_
        refine E.GL.st rfl rfl rfl (E.ST.call rfl ent24 (E.evc rfl E.evn) ((new_calls M A c _ hV.1).mono ?_))
        rintro e w35 ⟨v35, rfl, R35, l35⟩
        refine ⟨_, rfl, ?_⟩
        replace b3 := blk_below b3 l35
        replace b4 := blk_below b4 l35
        replace L := below_step L l35
        replace lr := below_step lr l35
        replace lw := below_step lw l35
        have ln := Below.refl w35.heap.size w35
        obtain ⟨A35, c35, hv35⟩ := Kd.R_slice R35
        subst hv35
        obtain ⟨_, _, C35⟩ := Kd.R_reads' R35
        refine E.GL.run rfl rfl rfl (E.Runs.assign rfl rfl) ?_
        refine E.GL.run rfl rfl rfl (E.Runs.assign rfl rfl) ?_
        refine E.GL.done ?_
        refine E.QG.code ?_
        refine E.CG.list ?_
        refine E.GL.run rfl rfl rfl (E.Runs.move rfl rfl) ?_
        refine E.GL.run rfl rfl rfl (E.Runs.add rfl rfl rfl (IntWalk.i64_in _ (by omega))) ?_
        refine E.GL.run rfl rfl rfl (E.Runs.assign rfl rfl) ?_
        refine E.GL.done ?_
        refine E.QG.code ?_
        refine E.CG.seq ?_
        refine E.CG.seq ?_
        refine E.CG.heldH (none) (by kernel_rfl) fun v8 lD hh => ?_
        replace b3 := blk_below b3 lD
        replace b4 := blk_below b4 lD
        replace L := below_step L lD
        replace lr := below_step lr lD
        replace lw := below_step lw lD
        replace ln := below_step ln lD
        clear lD
        have s_b3 := b3
        have s_b4 := b4
        have s_L := L
        have s_lr := lr
        have s_lw := lw
        have s_ln := ln
        refine E.GH.take (i := 0) rfl (by kernel_rfl) (by kernel_rfl) (by kernel_rfl) (by intro c a d v w h; cases d <;> exact h) rfl rfl rfl (fun w' hS => (E.Runs.loads (cs := [.int .i64 M.fl, .int .i64 M.fh, .int .i64 M.al, .int .i64 M.ah, .int .i64 M.nl, .int .i64 M.nh, .int .i64 M.ra, .slice A M.gs.length c, .int .i64 M.wr]) rfl rfl hu26 rfl info26s (blk_cells (blk_grown s_b3 hS E.nen)))) ?_
        refine E.GH.take (i := 1) rfl (by kernel_rfl) (by kernel_rfl) (by kernel_rfl) (by intro c a d v w h; cases d <;> exact h) rfl rfl rfl (fun w' hS => (E.Runs.move rfl rfl)) ?_
        refine E.GH.take (i := 2) rfl (by kernel_rfl) (by kernel_rfl) (by kernel_rfl) (by intro c a d v w h; cases d <;> exact h) rfl rfl rfl (fun w' hS => (E.Runs.move rfl rfl)) ?_
        refine E.GH.take (i := 3) rfl (by kernel_rfl) (by kernel_rfl) (by kernel_rfl) (by intro c a d v w h; cases d <;> exact h) rfl rfl rfl (fun w' hS => (E.Runs.fieldAddr rfl rfl hu43 rfl (by assumption) rfl)) ?_
        refine E.GH.take (i := 4) rfl (by kernel_rfl) (by kernel_rfl) (by kernel_rfl) (by intro c a d v w h; cases d <;> exact h) rfl rfl rfl (fun w' hS => (E.Runs.load1 rfl rfl hu27 rfl (by first | exact E.keeps hS (E.blkc (by assumption) rfl) (by first | exact E.nen | exact E.nes (by assumption) | exact E.nes (Ne.symm (by assumption))) | exact pw_cell_below (below_step s_L (E.belowG hS)) (by assumption) | exact pw_cell_below (below_step s_lr (E.belowG hS)) (by assumption) | exact pw_cell_below (below_step s_lw (E.belowG hS)) (by assumption) | exact pw_cell_below (below_step s_ln (E.belowG hS)) (by assumption)))) ?_
        refine E.GH.take (i := 5) rfl (by kernel_rfl) (by kernel_rfl) (by kernel_rfl) (by intro c a d v w h; cases d <;> exact h) rfl rfl rfl (fun w' hS => (E.Runs.move rfl rfl)) ?_
        refine E.GH.take (i := 6) rfl (by kernel_rfl) (by kernel_rfl) (by kernel_rfl) (by intro c a d v w h; cases d <;> exact h) rfl rfl rfl (fun w' hS => (E.Runs.indexAddrA rfl rfl rfl hu27 (by assumption) (by assumption) (by assumption) (by first | rfl | assumption) rfl)) ?_
        refine E.GH.take (i := 7) rfl (by kernel_rfl) (by kernel_rfl) (by kernel_rfl) (by intro c a d v w h; cases d <;> exact h) rfl rfl rfl (fun w' hS => (E.Runs.load rfl rfl hu3 (by first | exact E.keeps hS (E.blkc (by assumption) rfl) (by first | exact E.nen | exact E.nes (by assumption) | exact E.nes (Ne.symm (by assumption))) | exact pw_cell_below (below_step s_L (E.belowG hS)) (by assumption) | exact pw_cell_below (below_step s_lr (E.belowG hS)) (by assumption) | exact pw_cell_below (below_step s_lw (E.belowG hS)) (by assumption) | exact pw_cell_below (below_step s_ln (E.belowG hS)) (by assumption)))) ?_
        by_cases h46 : (showT M.nl M.nh M.ra) (pairs M) 0 x
        · have hq : 0 + x ≤ 40 := by have := h46.2.1; omega
          refine E.GH.one (i := 8) (by kernel_rfl) rfl ?_
          refine E.GO.st rfl rfl rfl (E.ST.call rfl ent23 (E.evc rfl (E.evc rfl (E.evc rfl (E.evc rfl E.evn)))) ((canshow_calls M (pairs M) A A35 c c35 0 x _ true (iff_of_true rfl h46) (Kd.C_below C35 ln) (fun y hy => pairs_ok hV.1 hy) (by omega) ⟨by omega, by omega⟩ hxd hra).mono ?_))
          rintro e w46 ⟨rfl, l46⟩
          refine ⟨_, rfl, hh.trans (E.gbB l46), ?_⟩
          replace hh := hh.trans (E.gbB l46)
          replace b3 := blk_below b3 l46
          replace b4 := blk_below b4 l46
          replace L := below_step L l46
          replace lr := below_step lr l46
          replace lw := below_step lw l46
          replace ln := below_step ln l46
          refine E.GH.take (i := 9) rfl (by kernel_rfl) (by kernel_rfl) (by kernel_rfl) (by intro c a d v w h; cases d <;> exact h) rfl rfl rfl (fun w' hS => (E.Runs.not rfl rfl)) ?_
          refine E.GH.done (by kernel_rfl) ?_
          refine E.QG.code ?_
          refine E.CG.cond_f rfl ?_
          refine E.CG.skip ?_
          refine E.QG.code ?_
          refine E.CG.list ?_
          refine E.GL.run rfl rfl rfl (E.Runs.move rfl rfl) ?_
          refine E.GL.run rfl rfl rfl (E.Runs.fieldAddr rfl rfl hu43 rfl (by assumption) rfl) ?_
          refine E.GL.run rfl rfl rfl (E.Runs.load1 rfl rfl hu27 rfl (by first | assumption | exact E.blkc (by assumption) rfl | exact pw_cell_below L (by assumption) | exact pw_cell_below lr (by assumption) | exact pw_cell_below lw (by assumption) | exact pw_cell_below ln (by assumption))) ?_
          refine E.GL.run rfl rfl rfl (E.Runs.move rfl rfl) ?_
          refine E.GL.run rfl rfl rfl (E.Runs.indexAddrA rfl rfl rfl hu27 (by assumption) (by assumption) (by assumption) (by first | rfl | assumption) rfl) ?_
          refine E.GL.run rfl rfl rfl (E.Runs.load rfl rfl hu3 (by first | assumption | exact E.blkc (by assumption) rfl | exact pw_cell_below L (by assumption) | exact pw_cell_below lr (by assumption) | exact pw_cell_below lw (by assumption) | exact pw_cell_below ln (by assumption))) ?_
          refine E.GL.run rfl rfl rfl (E.Runs.add rfl rfl rfl (IntWalk.i64_in _ (by omega))) ?_
          refine E.GL.run rfl rfl rfl (E.Runs.assign rfl rfl) ?_
          refine E.GL.done ?_
          refine E.QG.block_normal ?_
          refine E.QG.code ?_
          refine E.CG.list ?_
          refine E.GL.run rfl rfl rfl (E.Runs.move rfl rfl) ?_
          refine E.GL.run rfl rfl rfl (E.Runs.add rfl rfl rfl (IntWalk.i64_in _ (by omega))) ?_
          refine E.GL.run rfl rfl rfl (E.Runs.assign rfl rfl) ?_
          refine E.GL.done ?_
          exact E.QG.round2 (d := ⟨[], none, 0, 0, 0⟩) (i + 1) ⟨pairs M, A35, c35, 0 + x, s.n + 1⟩ (E.subc rfl (E.subc rfl (E.subc rfl (E.subc rfl (E.subc rfl (E.subc rfl (E.subc rfl E.subn))))))) (by first | exact ⟨by omega, by show s.n + 1 ≤ _; omega, lr, Kd.C_below C35 ln, fun y hy => pairs_ok hV.1 hy, hfp, ⟨by show 0 ≤ 0 + x; omega, hq⟩, hinv.trans (hst.trans (and_iff_right h46))⟩ | exact ⟨by omega, hn3, lr, Kd.C_below hC lw, hok, hl40, ⟨by show 0 ≤ s.b + x; have := hb40.1; omega, hq⟩, hinv.trans (hst.trans (and_iff_right h46))⟩ | fail) (by omega)
        · refine E.GH.one (i := 8) (by kernel_rfl) rfl ?_
          refine E.GO.st rfl rfl rfl (E.ST.call rfl ent23 (E.evc rfl (E.evc rfl (E.evc rfl (E.evc rfl E.evn)))) ((canshow_calls M (pairs M) A A35 c c35 0 x _ false (iff_of_false Bool.false_ne_true h46) (Kd.C_below C35 ln) (fun y hy => pairs_ok hV.1 hy) (by omega) ⟨by omega, by omega⟩ hxd hra).mono ?_))
          rintro e w46 ⟨rfl, l46⟩
          refine ⟨_, rfl, hh.trans (E.gbB l46), ?_⟩
          replace hh := hh.trans (E.gbB l46)
          replace b3 := blk_below b3 l46
          replace b4 := blk_below b4 l46
          replace L := below_step L l46
          replace lr := below_step lr l46
          replace lw := below_step lw l46
          replace ln := below_step ln l46
          refine E.GH.take (i := 9) rfl (by kernel_rfl) (by kernel_rfl) (by kernel_rfl) (by intro c a d v w h; cases d <;> exact h) rfl rfl rfl (fun w' hS => (E.Runs.not rfl rfl)) ?_
          refine E.GH.done (by kernel_rfl) ?_
          refine E.QG.code ?_
          refine E.CG.cond_t rfl ?_
          refine E.CG.seq ?_
          refine E.CG.list ?_
          refine E.GL.run rfl rfl rfl (E.Runs.assign rfl rfl) ?_
          refine E.GL.done ?_
          refine E.QG.code ?_
          refine E.CG.ret ?_
          refine E.QG.pass_ret ?_
          refine E.QG.block_ret ?_
          refine E.QG.pass_ret ?_
          refine E.QG.pass_ret ?_
          refine E.QG.block_ret ?_
          refine E.QG.pass_ret ?_
          first | exact E.QG.result rfl rfl ⟨by rw [bool_no hb (fun z => h46 (hst.mp (hinv.mp z)).1)], L⟩ | exact E.QG.result rfl rfl ⟨by rw [hb.mpr (hinv.mpr (by rw [List.drop_of_length_le (show l.length ≤ i by omega)]; exact (drop_nil hn3).mpr h58))], L⟩ | exact E.QG.result rfl rfl ⟨by rw [bool_no hb (fun z => h58 ((drop_nil hn3).mp (by have z2 := hinv.mp z; rw [List.drop_of_length_le (show l.length ≤ i by omega)] at z2; exact z2)))], L⟩ | fail
      · have hst := shw_same (S := (showT M.nl M.nh M.ra)) (fr := pairs M) (t := s.t) (b := s.b) (d := (i : Int)) hx (show ¬ k[s.n]? = some (i : Int) from fun e => h32 (by rw [hy] at e; exact Option.some.inj e))
        refine E.GL.run rfl rfl rfl (E.Runs.pick_t rfl rfl rfl) ?_
        refine E.GL.done ?_
        refine E.QG.code ?_
        refine E.CG.cond_f rfl ?_
        refine E.CG.skip ?_
        refine E.QG.code ?_
        refine E.CG.seq ?_
        refine E.CG.seq ?_
        refine E.CG.heldH (none) (by kernel_rfl) fun v8 lD hh => ?_
        replace b3 := blk_below b3 lD
        replace b4 := blk_below b4 lD
        replace L := below_step L lD
        replace lr := below_step lr lD
        replace lw := below_step lw lD
        clear lD
        have s_b3 := b3
        have s_b4 := b4
        have s_L := L
        have s_lr := lr
        have s_lw := lw
        refine E.GH.take (i := 0) rfl (by kernel_rfl) (by kernel_rfl) (by kernel_rfl) (by intro c a d v w h; cases d <;> exact h) rfl rfl rfl (fun w' hS => (E.Runs.loads (cs := [.int .i64 M.fl, .int .i64 M.fh, .int .i64 M.al, .int .i64 M.ah, .int .i64 M.nl, .int .i64 M.nh, .int .i64 M.ra, .slice A M.gs.length c, .int .i64 M.wr]) rfl rfl hu26 rfl info26s (blk_cells (blk_grown s_b3 hS E.nen)))) ?_
        refine E.GH.take (i := 1) rfl (by kernel_rfl) (by kernel_rfl) (by kernel_rfl) (by intro c a d v w h; cases d <;> exact h) rfl rfl rfl (fun w' hS => (E.Runs.move rfl rfl)) ?_
        refine E.GH.take (i := 2) rfl (by kernel_rfl) (by kernel_rfl) (by kernel_rfl) (by intro c a d v w h; cases d <;> exact h) rfl rfl rfl (fun w' hS => (E.Runs.move rfl rfl)) ?_
        refine E.GH.take (i := 3) rfl (by kernel_rfl) (by kernel_rfl) (by kernel_rfl) (by intro c a d v w h; cases d <;> exact h) rfl rfl rfl (fun w' hS => (E.Runs.fieldAddr rfl rfl hu43 rfl (by assumption) rfl)) ?_
        refine E.GH.take (i := 4) rfl (by kernel_rfl) (by kernel_rfl) (by kernel_rfl) (by intro c a d v w h; cases d <;> exact h) rfl rfl rfl (fun w' hS => (E.Runs.load1 rfl rfl hu27 rfl (by first | exact E.keeps hS (E.blkc (by assumption) rfl) (by first | exact E.nen | exact E.nes (by assumption) | exact E.nes (Ne.symm (by assumption))) | exact pw_cell_below (below_step s_L (E.belowG hS)) (by assumption) | exact pw_cell_below (below_step s_lr (E.belowG hS)) (by assumption) | exact pw_cell_below (below_step s_lw (E.belowG hS)) (by assumption)))) ?_
        refine E.GH.take (i := 5) rfl (by kernel_rfl) (by kernel_rfl) (by kernel_rfl) (by intro c a d v w h; cases d <;> exact h) rfl rfl rfl (fun w' hS => (E.Runs.move rfl rfl)) ?_
        refine E.GH.take (i := 6) rfl (by kernel_rfl) (by kernel_rfl) (by kernel_rfl) (by intro c a d v w h; cases d <;> exact h) rfl rfl rfl (fun w' hS => (E.Runs.indexAddrA rfl rfl rfl hu27 (by assumption) (by assumption) (by assumption) (by first | rfl | assumption) rfl)) ?_
        refine E.GH.take (i := 7) rfl (by kernel_rfl) (by kernel_rfl) (by kernel_rfl) (by intro c a d v w h; cases d <;> exact h) rfl rfl rfl (fun w' hS => (E.Runs.load rfl rfl hu3 (by first | exact E.keeps hS (E.blkc (by assumption) rfl) (by first | exact E.nen | exact E.nes (by assumption) | exact E.nes (Ne.symm (by assumption))) | exact pw_cell_below (below_step s_L (E.belowG hS)) (by assumption) | exact pw_cell_below (below_step s_lr (E.belowG hS)) (by assumption) | exact pw_cell_below (below_step s_lw (E.belowG hS)) (by assumption)))) ?_
        by_cases h46 : (showT M.nl M.nh M.ra) s.t s.b x
        · have hq : s.b + x ≤ 40 := by have := h46.2.1; omega
          refine E.GH.one (i := 8) (by kernel_rfl) rfl ?_
          refine E.GO.st rfl rfl rfl (E.ST.call rfl ent23 (E.evc rfl (E.evc rfl (E.evc rfl (E.evc rfl E.evn)))) ((canshow_calls M s.t A s.A c s.c s.b x _ true (iff_of_true rfl h46) (Kd.C_below hC lw) hok (by omega) hb40 hxd hra).mono ?_))
          rintro e w46 ⟨rfl, l46⟩
          refine ⟨_, rfl, hh.trans (E.gbB l46), ?_⟩
          replace hh := hh.trans (E.gbB l46)
          replace b3 := blk_below b3 l46
          replace b4 := blk_below b4 l46
          replace L := below_step L l46
          replace lr := below_step lr l46
          replace lw := below_step lw l46
          refine E.GH.take (i := 9) rfl (by kernel_rfl) (by kernel_rfl) (by kernel_rfl) (by intro c a d v w h; cases d <;> exact h) rfl rfl rfl (fun w' hS => (E.Runs.not rfl rfl)) ?_
          refine E.GH.done (by kernel_rfl) ?_
          refine E.QG.code ?_
          refine E.CG.cond_f rfl ?_
          refine E.CG.skip ?_
          refine E.QG.code ?_
          refine E.CG.list ?_
          refine E.GL.run rfl rfl rfl (E.Runs.move rfl rfl) ?_
          refine E.GL.run rfl rfl rfl (E.Runs.fieldAddr rfl rfl hu43 rfl (by assumption) rfl) ?_
          refine E.GL.run rfl rfl rfl (E.Runs.load1 rfl rfl hu27 rfl (by first | assumption | exact E.blkc (by assumption) rfl | exact pw_cell_below L (by assumption) | exact pw_cell_below lr (by assumption) | exact pw_cell_below lw (by assumption))) ?_
          refine E.GL.run rfl rfl rfl (E.Runs.move rfl rfl) ?_
          refine E.GL.run rfl rfl rfl (E.Runs.indexAddrA rfl rfl rfl hu27 (by assumption) (by assumption) (by assumption) (by first | rfl | assumption) rfl) ?_
          refine E.GL.run rfl rfl rfl (E.Runs.load rfl rfl hu3 (by first | assumption | exact E.blkc (by assumption) rfl | exact pw_cell_below L (by assumption) | exact pw_cell_below lr (by assumption) | exact pw_cell_below lw (by assumption))) ?_
          refine E.GL.run rfl rfl rfl (E.Runs.add rfl rfl rfl (IntWalk.i64_in _ (by omega))) ?_
          refine E.GL.run rfl rfl rfl (E.Runs.assign rfl rfl) ?_
          refine E.GL.done ?_
          refine E.QG.block_normal ?_
          refine E.QG.code ?_
          refine E.CG.list ?_
          refine E.GL.run rfl rfl rfl (E.Runs.move rfl rfl) ?_
          refine E.GL.run rfl rfl rfl (E.Runs.add rfl rfl rfl (IntWalk.i64_in _ (by omega))) ?_
          refine E.GL.run rfl rfl rfl (E.Runs.assign rfl rfl) ?_
          refine E.GL.done ?_
          exact E.QG.round2 (d := ⟨[], none, 0, 0, 0⟩) (i + 1) ⟨s.t, s.A, s.c, s.b + x, s.n⟩ (E.subc rfl (E.subc rfl (E.subc rfl (E.subc rfl (E.subc rfl (E.subc rfl (E.subc rfl E.subn))))))) (by first | exact ⟨by omega, by show s.n + 1 ≤ _; omega, lr, Kd.C_below C35 ln, fun y hy => pairs_ok hV.1 hy, hfp, ⟨by show 0 ≤ 0 + x; omega, hq⟩, hinv.trans (hst.trans (and_iff_right h46))⟩ | exact ⟨by omega, hn3, lr, Kd.C_below hC lw, hok, hl40, ⟨by show 0 ≤ s.b + x; have := hb40.1; omega, hq⟩, hinv.trans (hst.trans (and_iff_right h46))⟩ | fail) (by omega)
        · refine E.GH.one (i := 8) (by kernel_rfl) rfl ?_
          refine E.GO.st rfl rfl rfl (E.ST.call rfl ent23 (E.evc rfl (E.evc rfl (E.evc rfl (E.evc rfl E.evn)))) ((canshow_calls M s.t A s.A c s.c s.b x _ false (iff_of_false Bool.false_ne_true h46) (Kd.C_below hC lw) hok (by omega) hb40 hxd hra).mono ?_))
          rintro e w46 ⟨rfl, l46⟩
          refine ⟨_, rfl, hh.trans (E.gbB l46), ?_⟩
          replace hh := hh.trans (E.gbB l46)
          replace b3 := blk_below b3 l46
          replace b4 := blk_below b4 l46
          replace L := below_step L l46
          replace lr := below_step lr l46
          replace lw := below_step lw l46
          refine E.GH.take (i := 9) rfl (by kernel_rfl) (by kernel_rfl) (by kernel_rfl) (by intro c a d v w h; cases d <;> exact h) rfl rfl rfl (fun w' hS => (E.Runs.not rfl rfl)) ?_
          refine E.GH.done (by kernel_rfl) ?_
          refine E.QG.code ?_
          refine E.CG.cond_t rfl ?_
          refine E.CG.seq ?_
          refine E.CG.list ?_
          refine E.GL.run rfl rfl rfl (E.Runs.assign rfl rfl) ?_
          refine E.GL.done ?_
          refine E.QG.code ?_
          refine E.CG.ret ?_
          refine E.QG.pass_ret ?_
          refine E.QG.block_ret ?_
          refine E.QG.pass_ret ?_
          refine E.QG.pass_ret ?_
          refine E.QG.block_ret ?_
          refine E.QG.pass_ret ?_
          first | exact E.QG.result rfl rfl ⟨by rw [bool_no hb (fun z => h46 (hst.mp (hinv.mp z)).1)], L⟩ | exact E.QG.result rfl rfl ⟨by rw [hb.mpr (hinv.mpr (by rw [List.drop_of_length_le (show l.length ≤ i by omega)]; exact (drop_nil hn3).mpr h58))], L⟩ | exact E.QG.result rfl rfl ⟨by rw [bool_no hb (fun z => h58 ((drop_nil hn3).mp (by have z2 := hinv.mp z; rw [List.drop_of_length_le (show l.length ≤ i by omega)] at z2; exact z2)))], L⟩ | fail
    · have hst := shw_same (S := (showT M.nl M.nh M.ra)) (fr := pairs M) (t := s.t) (b := s.b) (d := (i : Int)) hx (show ¬ k[s.n]? = some (i : Int) by rw [List.getElem?_eq_none (by omega)]; simp)
      refine E.GL.run rfl rfl rfl (E.Runs.move rfl rfl) ?_
      refine E.GL.skip rfl rfl rfl ?_
      refine E.GL.skip rfl rfl rfl ?_
      refine E.GL.skip rfl rfl rfl ?_
      refine E.GL.skip rfl rfl rfl ?_
      refine E.GL.skip rfl rfl rfl ?_
      refine E.GL.skip rfl rfl rfl ?_
      refine E.GL.run rfl rfl rfl (E.Runs.pick_f rfl rfl rfl) ?_
      refine E.GL.done ?_
      refine E.QG.code ?_
      refine E.CG.cond_f rfl ?_
      refine E.CG.skip ?_
      refine E.QG.code ?_
      refine E.CG.seq ?_
      refine E.CG.seq ?_
      refine E.CG.heldH (none) (by kernel_rfl) fun v8 lD hh => ?_
      replace b3 := blk_below b3 lD
      replace b4 := blk_below b4 lD
      replace L := below_step L lD
      replace lr := below_step lr lD
      replace lw := below_step lw lD
      clear lD
      have s_b3 := b3
      have s_b4 := b4
      have s_L := L
      have s_lr := lr
      have s_lw := lw
      refine E.GH.take (i := 0) rfl (by kernel_rfl) (by kernel_rfl) (by kernel_rfl) (by intro c a d v w h; cases d <;> exact h) rfl rfl rfl (fun w' hS => (E.Runs.loads (cs := [.int .i64 M.fl, .int .i64 M.fh, .int .i64 M.al, .int .i64 M.ah, .int .i64 M.nl, .int .i64 M.nh, .int .i64 M.ra, .slice A M.gs.length c, .int .i64 M.wr]) rfl rfl hu26 rfl info26s (blk_cells (blk_grown s_b3 hS E.nen)))) ?_
      refine E.GH.take (i := 1) rfl (by kernel_rfl) (by kernel_rfl) (by kernel_rfl) (by intro c a d v w h; cases d <;> exact h) rfl rfl rfl (fun w' hS => (E.Runs.move rfl rfl)) ?_
      refine E.GH.take (i := 2) rfl (by kernel_rfl) (by kernel_rfl) (by kernel_rfl) (by intro c a d v w h; cases d <;> exact h) rfl rfl rfl (fun w' hS => (E.Runs.move rfl rfl)) ?_
      refine E.GH.take (i := 3) rfl (by kernel_rfl) (by kernel_rfl) (by kernel_rfl) (by intro c a d v w h; cases d <;> exact h) rfl rfl rfl (fun w' hS => (E.Runs.fieldAddr rfl rfl hu43 rfl (by assumption) rfl)) ?_
      refine E.GH.take (i := 4) rfl (by kernel_rfl) (by kernel_rfl) (by kernel_rfl) (by intro c a d v w h; cases d <;> exact h) rfl rfl rfl (fun w' hS => (E.Runs.load1 rfl rfl hu27 rfl (by first | exact E.keeps hS (E.blkc (by assumption) rfl) (by first | exact E.nen | exact E.nes (by assumption) | exact E.nes (Ne.symm (by assumption))) | exact pw_cell_below (below_step s_L (E.belowG hS)) (by assumption) | exact pw_cell_below (below_step s_lr (E.belowG hS)) (by assumption) | exact pw_cell_below (below_step s_lw (E.belowG hS)) (by assumption)))) ?_
      refine E.GH.take (i := 5) rfl (by kernel_rfl) (by kernel_rfl) (by kernel_rfl) (by intro c a d v w h; cases d <;> exact h) rfl rfl rfl (fun w' hS => (E.Runs.move rfl rfl)) ?_
      refine E.GH.take (i := 6) rfl (by kernel_rfl) (by kernel_rfl) (by kernel_rfl) (by intro c a d v w h; cases d <;> exact h) rfl rfl rfl (fun w' hS => (E.Runs.indexAddrA rfl rfl rfl hu27 (by assumption) (by assumption) (by assumption) (by first | rfl | assumption) rfl)) ?_
      refine E.GH.take (i := 7) rfl (by kernel_rfl) (by kernel_rfl) (by kernel_rfl) (by intro c a d v w h; cases d <;> exact h) rfl rfl rfl (fun w' hS => (E.Runs.load rfl rfl hu3 (by first | exact E.keeps hS (E.blkc (by assumption) rfl) (by first | exact E.nen | exact E.nes (by assumption) | exact E.nes (Ne.symm (by assumption))) | exact pw_cell_below (below_step s_L (E.belowG hS)) (by assumption) | exact pw_cell_below (below_step s_lr (E.belowG hS)) (by assumption) | exact pw_cell_below (below_step s_lw (E.belowG hS)) (by assumption)))) ?_
      by_cases h46 : (showT M.nl M.nh M.ra) s.t s.b x
      · have hq : s.b + x ≤ 40 := by have := h46.2.1; omega
        refine E.GH.one (i := 8) (by kernel_rfl) rfl ?_
        refine E.GO.st rfl rfl rfl (E.ST.call rfl ent23 (E.evc rfl (E.evc rfl (E.evc rfl (E.evc rfl E.evn)))) ((canshow_calls M s.t A s.A c s.c s.b x _ true (iff_of_true rfl h46) (Kd.C_below hC lw) hok (by omega) hb40 hxd hra).mono ?_))
        rintro e w46 ⟨rfl, l46⟩
        refine ⟨_, rfl, hh.trans (E.gbB l46), ?_⟩
        replace hh := hh.trans (E.gbB l46)
        replace b3 := blk_below b3 l46
        replace b4 := blk_below b4 l46
        replace L := below_step L l46
        replace lr := below_step lr l46
        replace lw := below_step lw l46
        refine E.GH.take (i := 9) rfl (by kernel_rfl) (by kernel_rfl) (by kernel_rfl) (by intro c a d v w h; cases d <;> exact h) rfl rfl rfl (fun w' hS => (E.Runs.not rfl rfl)) ?_
        refine E.GH.done (by kernel_rfl) ?_
        refine E.QG.code ?_
        refine E.CG.cond_f rfl ?_
        refine E.CG.skip ?_
        refine E.QG.code ?_
        refine E.CG.list ?_
        refine E.GL.run rfl rfl rfl (E.Runs.move rfl rfl) ?_
        refine E.GL.run rfl rfl rfl (E.Runs.fieldAddr rfl rfl hu43 rfl (by assumption) rfl) ?_
        refine E.GL.run rfl rfl rfl (E.Runs.load1 rfl rfl hu27 rfl (by first | assumption | exact E.blkc (by assumption) rfl | exact pw_cell_below L (by assumption) | exact pw_cell_below lr (by assumption) | exact pw_cell_below lw (by assumption))) ?_
        refine E.GL.run rfl rfl rfl (E.Runs.move rfl rfl) ?_
        refine E.GL.run rfl rfl rfl (E.Runs.indexAddrA rfl rfl rfl hu27 (by assumption) (by assumption) (by assumption) (by first | rfl | assumption) rfl) ?_
        refine E.GL.run rfl rfl rfl (E.Runs.load rfl rfl hu3 (by first | assumption | exact E.blkc (by assumption) rfl | exact pw_cell_below L (by assumption) | exact pw_cell_below lr (by assumption) | exact pw_cell_below lw (by assumption))) ?_
        refine E.GL.run rfl rfl rfl (E.Runs.add rfl rfl rfl (IntWalk.i64_in _ (by omega))) ?_
        refine E.GL.run rfl rfl rfl (E.Runs.assign rfl rfl) ?_
        refine E.GL.done ?_
        refine E.QG.block_normal ?_
        refine E.QG.code ?_
        refine E.CG.list ?_
        refine E.GL.run rfl rfl rfl (E.Runs.move rfl rfl) ?_
        refine E.GL.run rfl rfl rfl (E.Runs.add rfl rfl rfl (IntWalk.i64_in _ (by omega))) ?_
        refine E.GL.run rfl rfl rfl (E.Runs.assign rfl rfl) ?_
        refine E.GL.done ?_
        exact E.QG.round2 (d := ⟨[], none, 0, 0, 0⟩) (i + 1) ⟨s.t, s.A, s.c, s.b + x, s.n⟩ (E.subc rfl (E.subc rfl (E.subc rfl (E.subc rfl (E.subc rfl (E.subc rfl (E.subc rfl E.subn))))))) (by first | exact ⟨by omega, by show s.n + 1 ≤ _; omega, lr, Kd.C_below C35 ln, fun y hy => pairs_ok hV.1 hy, hfp, ⟨by show 0 ≤ 0 + x; omega, hq⟩, hinv.trans (hst.trans (and_iff_right h46))⟩ | exact ⟨by omega, hn3, lr, Kd.C_below hC lw, hok, hl40, ⟨by show 0 ≤ s.b + x; have := hb40.1; omega, hq⟩, hinv.trans (hst.trans (and_iff_right h46))⟩ | fail) (by omega)
      · refine E.GH.one (i := 8) (by kernel_rfl) rfl ?_
        refine E.GO.st rfl rfl rfl (E.ST.call rfl ent23 (E.evc rfl (E.evc rfl (E.evc rfl (E.evc rfl E.evn)))) ((canshow_calls M s.t A s.A c s.c s.b x _ false (iff_of_false Bool.false_ne_true h46) (Kd.C_below hC lw) hok (by omega) hb40 hxd hra).mono ?_))
        rintro e w46 ⟨rfl, l46⟩
        refine ⟨_, rfl, hh.trans (E.gbB l46), ?_⟩
        replace hh := hh.trans (E.gbB l46)
        replace b3 := blk_below b3 l46
        replace b4 := blk_below b4 l46
        replace L := below_step L l46
        replace lr := below_step lr l46
        replace lw := below_step lw l46
        refine E.GH.take (i := 9) rfl (by kernel_rfl) (by kernel_rfl) (by kernel_rfl) (by intro c a d v w h; cases d <;> exact h) rfl rfl rfl (fun w' hS => (E.Runs.not rfl rfl)) ?_
        refine E.GH.done (by kernel_rfl) ?_
        refine E.QG.code ?_
        refine E.CG.cond_t rfl ?_
        refine E.CG.seq ?_
        refine E.CG.list ?_
        refine E.GL.run rfl rfl rfl (E.Runs.assign rfl rfl) ?_
        refine E.GL.done ?_
        refine E.QG.code ?_
        refine E.CG.ret ?_
        refine E.QG.pass_ret ?_
        refine E.QG.block_ret ?_
        refine E.QG.pass_ret ?_
        refine E.QG.pass_ret ?_
        refine E.QG.block_ret ?_
        refine E.QG.pass_ret ?_
        first | exact E.QG.result rfl rfl ⟨by rw [bool_no hb (fun z => h46 (hst.mp (hinv.mp z)).1)], L⟩ | exact E.QG.result rfl rfl ⟨by rw [hb.mpr (hinv.mpr (by rw [List.drop_of_length_le (show l.length ≤ i by omega)]; exact (drop_nil hn3).mpr h58))], L⟩ | exact E.QG.result rfl rfl ⟨by rw [bool_no hb (fun z => h58 ((drop_nil hn3).mp (by have z2 := hinv.mp z; rw [List.drop_of_length_le (show l.length ≤ i by omega)] at z2; exact z2)))], L⟩ | fail
  · refine E.GL.done ?_
    refine E.QG.code ?_
    refine E.CG.cond_f rfl ?_
    refine E.CG.exit ?_
    refine E.QG.pass_exit ?_
    refine E.QG.pass_exit ?_
    refine E.QG.block_here ?_
    refine E.QG.code ?_
    refine E.CG.seq ?_
    refine E.CG.list ?_
    refine E.GL.run rfl rfl rfl (E.Runs.move rfl rfl) ?_
    refine E.GL.run rfl rfl rfl (E.Runs.move rfl rfl) ?_
    refine E.GL.run rfl rfl rfl (E.Runs.len rfl rfl hu27) ?_
    refine E.GL.cmp rfl rfl rfl (fun _ h => (E.Runs.eql rfl rfl rfl h)) (fun h58 => ?_) (fun h58 => ?_)
    · refine E.GL.run rfl rfl rfl (E.Runs.assign rfl rfl) ?_
      refine E.GL.done ?_
      refine E.QG.code ?_
      refine E.CG.ret ?_
      first | exact E.QG.result rfl rfl ⟨by rw [bool_no hb (fun z => h46 (hst.mp (hinv.mp z)).1)], L⟩ | exact E.QG.result rfl rfl ⟨by rw [hb.mpr (hinv.mpr (by rw [List.drop_of_length_le (show l.length ≤ i by omega)]; exact (drop_nil hn3).mpr h58))], L⟩ | exact E.QG.result rfl rfl ⟨by rw [bool_no hb (fun z => h58 ((drop_nil hn3).mp (by have z2 := hinv.mp z; rw [List.drop_of_length_le (show l.length ≤ i by omega)] at z2; exact z2)))], L⟩ | fail
    · refine E.GL.run rfl rfl rfl (E.Runs.assign rfl rfl) ?_
      refine E.GL.done ?_
      refine E.QG.code ?_
      refine E.CG.ret ?_
      first | exact E.QG.result rfl rfl ⟨by rw [bool_no hb (fun z => h46 (hst.mp (hinv.mp z)).1)], L⟩ | exact E.QG.result rfl rfl ⟨by rw [hb.mpr (hinv.mpr (by rw [List.drop_of_length_le (show l.length ≤ i by omega)]; exact (drop_nil hn3).mpr h58))], L⟩ | exact E.QG.result rfl rfl ⟨by rw [bool_no hb (fun z => h58 ((drop_nil hn3).mp (by have z2 := hinv.mp z; rw [List.drop_of_length_le (show l.length ≤ i by omega)] at z2; exact z2)))], L⟩ | fail

end Go.Proofs.Ytbajpjnloikpdaa.T
