/- A season: the walks of shows and Changes. -/
import Derived.Test.YtbajpjnloikpdaaP5
import Derived.Test.YtbajpjnloikpdaaE11
namespace Go.Proofs.Ytbajpjnloikpdaa.T
open Go.RowKit Go.Proofs.YtbajpjnloikpdaaW.PrintWords Go.Proofs.YtbajpjnloikpdaaW.PrintMore
open Go.Proofs.Ytbajpjnloikpdaa.P
set_option linter.unusedVariables false
set_option linter.unusedSimpArgs false

theorem int_at {w : World} {A : Option Addr} {n : Nat} {xs : List Int} (h : Kd.C kI w A n xs) {i : Nat} {x : Int} (hi : xs[i]? = some x) : ∃ ad, A = some ad ∧ w.cell? (ad.add (i * 1)) = some (.int .i64 x) := by
  have hil : i < xs.length := (List.getElem?_eq_some_iff.1 hi).1
  have hn := Kd.C_len h
  obtain ⟨ad, e, m⟩ := Kd.at_int h (i : Int) (by omega) (by omega)
  refine ⟨ad, e, ?_⟩
  rw [Int.toNat_natCast] at m
  rw [Nat.mul_one, m]
  unfold rd
  simp [List.getD_eq_getElem?_getD, hi]
def DaysOk (l : List Int) : Prop := ∀ x ∈ l, inR x 0 40
instance (l : List Int) : Decidable (DaysOk l) := by unfold DaysOk; infer_instance
theorem days_all {l : List Int} {n : Nat} (h : ∀ k, k < n → ∀ x, l[k]? = some x → inR x 0 40) (hn : l.length ≤ n) : DaysOk l := fun x hx => by
  obtain ⟨k, hk⟩ := List.mem_iff_getElem?.mp hx
  exact h k (by have := (List.getElem?_eq_some_iff.1 hk).1; omega) x hk
theorem days_more {l : List Int} {n : Nat} {x : Int} (h : ∀ k, k < n → ∀ x, l[k]? = some x → inR x 0 40) (hx : l[n]? = some x) (k : inR x 0 40) : ∀ k, k < n + 1 → ∀ x, l[k]? = some x → inR x 0 40 := by
  intro j hj y hy
  by_cases e : j = n
  · subst e
    rw [hx] at hy
    cases hy
    exact k
  · exact h j (by omega) y hy
theorem days_bad {l : List Int} {n : Nat} {x : Int} (hx : l[n]? = some x) (k : ¬ inR x 0 40) : ¬ DaysOk l := fun h => k (h x (List.mem_of_getElem? hx))
/-- A day can be shown. -/
def showT (a b ra : Int) (t : List Ln) (burnt hours : Int) : Prop := 0 < t.length ∧ burnt + hours ≤ ra ∧ ∀ h : Int, burnt ≤ h → h ≤ burnt + hours → keepsT a b t h = 1
/-- The same, told by the last hour. -/
theorem stopF_ge {so : Int → Prop} {bd : Int} : ∀ (k : Nat) (h : Int), h ≤ stopF so bd k h
  | 0, h => Int.le_refl _
  | k + 1, h => by
    have := stopF_ge (so := so) (bd := bd) k (h + 1)
    simp only [stopF]
    split <;> omega
theorem stopF_top {so : Int → Prop} {bd : Int} : ∀ (k : Nat) (h : Int), h ≤ bd + 1 → stopF so bd k h ≤ bd + 1
  | 0, h, k => k
  | k + 1, h, k2 => by
    simp only [stopF]
    split
    · next q => exact stopF_top k (h + 1) (by omega)
    · exact k2
theorem stopF_all {so : Int → Prop} {bd : Int} : ∀ (k : Nat) (h : Int), ∀ x, h ≤ x → x < stopF so bd k h → so x
  | 0, h, x, h1, h2 => absurd h2 (by show ¬ x < h; omega)
  | k + 1, h, x, h1, h2 => by
    simp only [stopF] at h2
    split at h2
    · next q =>
      by_cases e : x = h
      · subst e
        exact q.2
      · exact stopF_all k (h + 1) x (by omega) h2
    · omega
theorem stopF_stop {so : Int → Prop} {bd : Int} : ∀ (k : Nat) (h : Int), bd - h + 1 ≤ k → stopF so bd k h ≤ bd → ¬ so (stopF so bd k h)
  | 0, h, h1, h2 => absurd h2 (by show ¬ h ≤ bd; omega)
  | k + 1, h, h1, h2 => by
    simp only [stopF] at h2 ⊢
    split at h2
    · next q => rw [if_pos q]; exact stopF_stop k (h + 1) (by omega) h2
    · next q => rw [if_neg q]; exact fun k2 => q ⟨h2, k2⟩
/-- What the last hour is: as far as all is so. -/
theorem lastT_spec {so : Int → Prop} {f bd : Int} : (lastT so f bd = -1 ∧ (f ≤ bd → ¬ so f)) ∨ (f ≤ lastT so f bd ∧ lastT so f bd ≤ bd ∧ (∀ x, f ≤ x → x ≤ lastT so f bd → so x) ∧ (lastT so f bd < bd → ¬ so (lastT so f bd + 1))) := by
  have h1 := stopF_ge (so := so) (bd := bd) (bd - f + 1).toNat f
  unfold lastT
  split
  · next q =>
    refine .inl ⟨rfl, fun h => ?_⟩
    have := stopF_stop (so := so) (bd := bd) (bd - f + 1).toNat f (by omega) (by omega)
    rw [q] at this
    exact this
  · next q =>
    by_cases hb : f ≤ bd
    · have h2 := stopF_top (so := so) (bd := bd) (bd - f + 1).toNat f (by omega)
      refine .inr ⟨by omega, by omega, fun x hx hy => stopF_all (so := so) (bd := bd) (bd - f + 1).toNat f x hx (by omega), fun h => ?_⟩
      have := stopF_stop (so := so) (bd := bd) (bd - f + 1).toNat f (by omega) (by omega)
      rw [Int.sub_add_cancel]
      exact this
    · exact absurd (stopF_no (so := so) _ (fun k => hb k.1)) q
theorem last_full {so : Int → Prop} {f bd : Int} (h0 : 0 ≤ f) (h : f ≤ bd) : lastT so f bd = bd ↔ ∀ x, f ≤ x → x ≤ bd → so x := by
  rcases lastT_spec (so := so) (f := f) (bd := bd) with ⟨e, k⟩ | ⟨a, b, c, d⟩
  · rw [e]
    exact ⟨fun e2 => by omega, fun q => absurd (q f (Int.le_refl _) h) (k h)⟩
  · refine ⟨fun e => by rw [e] at c; exact c, fun q => ?_⟩
    apply Classical.byContradiction
    intro ne
    exact d (by omega) (q _ (by omega) (by omega))
open Classical in
/-- The days before which the lamp is changed; none: some day cannot be shown. -/
noncomputable def chg (S : List Ln → Int → Int → Prop) (fr : List Ln) : List Ln → Int → List Int → Int → Option (List Int)
  | _, _, [], _ => some []
  | t, b, x :: r, d => if ¬ S fr 0 x then none else if S t b x then chg S fr t (b + x) r (d + 1) else (chg S fr fr x r (d + 1)).map (d :: ·)
theorem chg_cons {S : List Ln → Int → Int → Prop} {fr t : List Ln} {b d x : Int} {r : List Int} : chg S fr t b (x :: r) d = (open Classical in if ¬ S fr 0 x then none else if S t b x then chg S fr t (b + x) r (d + 1) else (chg S fr fr x r (d + 1)).map (d :: ·)) := rfl
theorem drop_cons {l : List Int} {i : Nat} {x : Int} (hx : l[i]? = some x) : l.drop i = x :: l.drop (i + 1) := by
  obtain ⟨h, e⟩ := List.getElem?_eq_some_iff.1 hx
  rw [List.drop_eq_getElem_cons h, e]
theorem chg_no {S : List Ln → Int → Int → Prop} {fr t : List Ln} {b d x : Int} {l : List Int} {i : Nat} (hx : l[i]? = some x) (h : ¬ S fr 0 x) : chg S fr t b (l.drop i) d = none := by
  rw [drop_cons hx, chg_cons, if_pos h]
theorem chg_same {S : List Ln → Int → Int → Prop} {fr t : List Ln} {b d x : Int} {l : List Int} {i : Nat} (hx : l[i]? = some x) (h : S fr 0 x) (k : S t b x) : chg S fr t b (l.drop i) d = chg S fr t (b + x) (l.drop (i + 1)) (d + 1) := by
  rw [drop_cons hx, chg_cons, if_neg (fun n => n h), if_pos k]
theorem chg_new {S : List Ln → Int → Int → Prop} {fr t : List Ln} {b d x : Int} {l : List Int} {i : Nat} (hx : l[i]? = some x) (h : S fr 0 x) (k : ¬ S t b x) : chg S fr t b (l.drop i) d = (chg S fr fr (0 + x) (l.drop (i + 1)) (d + 1)).map (d :: ·) := by
  rw [drop_cons hx, chg_cons, if_neg (fun n => n h), if_neg k, Int.zero_add]
abbrev fr (M : Lm) : Lm := { M with gs := [] }
theorem fr_ok {M : Lm} (h : LampOk M) : LampOk (fr M) := ⟨⟨h.1.1, h.1.2.1, h.1.2.2.1, h.1.2.2.2.1, by show 0 ≤ 10; omega, h.1.2.2.2.2.2⟩, fun g hg => by simp at hg⟩
def daysE (M : Lm) (b : Int) (l : List Int) : Int := if ¬ LampOk M then 90 else if ¬ inR b 0 40 ∨ 30 < l.length ∨ ¬ DaysOk l then 1 else 0
theorem daysE_90 {M : Lm} {b : Int} {l : List Int} (h : ¬ LampOk M) : daysE M b l = 90 := if_pos h
theorem daysE_1 {M : Lm} {b : Int} {l : List Int} (h : LampOk M) (k : ¬ inR b 0 40 ∨ 30 < l.length ∨ ¬ DaysOk l) : daysE M b l = 1 := by unfold daysE; rw [if_neg (fun n => n h), if_pos k]
theorem daysE_0 {M : Lm} {b : Int} {l : List Int} (h : LampOk M) (h1 : inR b 0 40) (h2 : l.length ≤ 30) (h3 : DaysOk l) : daysE M b l = 0 := by unfold daysE; rw [if_neg (fun n => n h), if_neg (fun k => by rcases k with k | k | k; exact k h1; omega; exact k h3)]
theorem daysE_ok {M : Lm} {b : Int} {l : List Int} (k : daysE M b l = 0) : LampOk M ∧ inR b 0 40 ∧ l.length ≤ 30 ∧ DaysOk l := by
  unfold daysE at k
  split at k
  · cases k
  · next h =>
    split at k
    · cases k
    · next q =>
      have h1 := Decidable.not_not.mp h
      have h2 : inR b 0 40 := Decidable.byContradiction fun n => q (.inl n)
      have h4 : DaysOk l := Decidable.byContradiction fun n => q (.inr (.inr n))
      exact ⟨h1, h2, Decidable.byContradiction fun n => q (.inr (.inl (by omega))), h4⟩
noncomputable def chgR (M : Lm) (b : Int) (l : List Int) : Option (List Int) := chg (showT M.nl M.nh M.ra) (truths (fr M)) (truths M) b l 0
noncomputable def chgE (M : Lm) (b : Int) (l : List Int) : Int := if daysE M b l = 0 then (if (chgR M b l).isSome then 0 else 3) else daysE M b l
noncomputable def chgL (M : Lm) (b : Int) (l : List Int) : List Int := if daysE M b l = 0 then (chgR M b l).getD [] else []
theorem chgL_no {M : Lm} {b : Int} {l : List Int} (h : ¬ daysE M b l = 0) : chgL M b l = [] := if_neg h
theorem chgE_no {M : Lm} {b : Int} {l : List Int} (h : ¬ daysE M b l = 0) : chgE M b l = daysE M b l := if_neg h
theorem chg_some {M : Lm} {b : Int} {l out : List Int} (h : daysE M b l = 0) (k : chgR M b l = some out) : chgE M b l = 0 ∧ chgL M b l = out := by unfold chgE chgL; rw [if_pos h, if_pos h, k]; exact ⟨rfl, rfl⟩
theorem chg_none {M : Lm} {b : Int} {l : List Int} (h : daysE M b l = 0) (k : chgR M b l = none) : chgE M b l = 3 ∧ chgL M b l = [] := by unfold chgE chgL; rw [if_pos h, if_pos h, k]; exact ⟨rfl, rfl⟩
/-- Where the search for changes stands. -/
structure Cs where
  t : List Ln
  A : Option Addr
  c : Nat
  b : Int
  out : List Int
  v : Value
set_option maxRecDepth 100000 in
set_option maxHeartbeats 8000000 in

theorem clo45 (x : Int) (r : Bool) (hb : r = true ↔ ¬ inR x 0 40) (w : World) :
    Calls Try.prog 45 #[.int .i64 x] w fun e w' => e = .returned (.bool r) ∧ Below w.heap.size w w' := by
  refine E.enter (N := 6) Try.func45 rfl Try.ntmps45 (args := [.int .i64 x]) (by simp) ?_
  have L := Below.refl w.heap.size w
  refine E.CG.seq ?_
  refine E.CG.list ?_
  refine E.GL.run rfl rfl rfl (E.Runs.assign rfl rfl) ?_
  refine E.GL.done ?_
  refine E.QG.code ?_
  refine E.CG.seq ?_
  refine E.CG.list ?_
  refine E.GL.run rfl rfl rfl (E.Runs.move rfl rfl) ?_
  by_cases h4 : inR x 0 40
  · refine E.GL.st rfl rfl rfl (E.ST.call rfl ent43 (E.evc rfl (E.evc rfl (E.evc rfl E.evn))) ((within_o x 0 40 true (iff_of_true rfl h4) _).mono ?_))
    rintro e w4 ⟨rfl, l4⟩
    refine ⟨_, rfl, ?_⟩
    replace L := below_step L l4
    refine E.GL.run rfl rfl rfl (E.Runs.not rfl rfl) ?_
    refine E.GL.run rfl rfl rfl (E.Runs.assign rfl rfl) ?_
    refine E.GL.done ?_
    refine E.QG.code ?_
    refine E.CG.ret ?_
    exact E.QG.result rfl rfl ⟨by rw [bool_no hb (fun k => k h4)]; rfl, L⟩
  · refine E.GL.st rfl rfl rfl (E.ST.call rfl ent43 (E.evc rfl (E.evc rfl (E.evc rfl E.evn))) ((within_o x 0 40 false (iff_of_false Bool.false_ne_true h4) _).mono ?_))
    rintro e w4 ⟨rfl, l4⟩
    refine ⟨_, rfl, ?_⟩
    replace L := below_step L l4
    refine E.GL.run rfl rfl rfl (E.Runs.not rfl rfl) ?_
    refine E.GL.run rfl rfl rfl (E.Runs.assign rfl rfl) ?_
    refine E.GL.done ?_
    refine E.QG.code ?_
    refine E.CG.ret ?_
    exact E.QG.result rfl rfl ⟨by rw [hb.mpr h4]; rfl, L⟩

set_option maxRecDepth 100000 in
set_option maxHeartbeats 8000000 in

theorem index_calls (l : List Int) (A : Option Addr) (c : Nat) (w : World) (hr : Kd.C kI w A l.length l) (hn : l.length ≤ 1000000) :
    Calls Try.prog 67 #[.slice A l.length c, .func (.func 45) #[] #[]] w fun e w' => ∃ r : Int, e = .returned (.int .i64 r) ∧ (0 ≤ r ↔ ¬ DaysOk l) ∧ Below w.heap.size w w' := by
  have hu3 := Try.underlying3
  have hu27 := Try.underlying27
  obtain ⟨z3, o3⟩ := info_some info3s (by decide)
  refine E.enter (N := 19) Try.func67 rfl Try.ntmps67 (args := [.slice A l.length c, .func (.func 45) #[] #[]]) (by simp) ?_
  have L := Below.refl w.heap.size w
  refine E.CG.seq ?_
  refine E.CG.list ?_
  refine E.GL.run rfl rfl rfl (E.Runs.assign rfl rfl) ?_
  refine E.GL.done ?_
  refine E.QG.code ?_
  refine E.CG.seq ?_
  refine E.CG.seq ?_
  refine E.CG.list ?_
  refine E.GL.run rfl rfl rfl (E.Runs.move rfl rfl) ?_
  refine E.GL.run rfl rfl rfl (E.Runs.len rfl rfl hu27) ?_
  refine E.GL.run rfl rfl rfl (E.Runs.move rfl rfl) ?_
  refine E.GL.done ?_
  refine E.QG.code ?_
  refine E.CG.block ?_
  have s2_L := L
  refine E.CG.loop (fun (i : Nat) => [(0, .slice A l.length c), (1, .func (.func 45) #[] #[]), (7, .int .i64 l.length), (8, .int .i64 i)]) (fun i w' => i ≤ l.length ∧ Below w.heap.size w w' ∧ ∀ k, k < i → ∀ x, l[k]? = some x → inR x 0 40) (fun i => l.length - i) 0 (E.subc rfl (E.subc rfl (E.subc rfl (E.subc rfl E.subn)))) ⟨Nat.zero_le _, L, fun k hk => by omega⟩ ?_
  rintro i w2 ⟨hi, L, hok⟩
  refine E.CG.seq ?_
  refine E.CG.list ?_
  refine E.GL.cmp rfl rfl rfl (fun _ h => (E.Runs.lss rfl rfl rfl h)) (fun h9 => ?_) (fun h9 => ?_)
  · obtain ⟨x, hx⟩ : ∃ x, l[i]? = some x := ⟨_, List.getElem?_eq_getElem (by omega)⟩
    obtain ⟨ad, eA, X⟩ := int_at hr hx
    refine E.GL.done ?_
    refine E.QG.code ?_
    refine E.CG.seq ?_
    refine E.CG.cond_t rfl ?_
    refine E.CG.skip ?_
    refine E.QG.code ?_
    refine E.CG.seq ?_
    refine E.CG.block ?_
    refine E.CG.seq ?_
    refine E.CG.list ?_
    refine E.GL.run rfl rfl rfl (E.Runs.move rfl rfl) ?_
    refine E.GL.run rfl rfl rfl (E.Runs.assign rfl rfl) ?_
    refine E.GL.done ?_
    refine E.QG.code ?_
    refine E.CG.seq ?_
    refine E.CG.list ?_
    refine E.GL.run rfl rfl rfl (E.Runs.move rfl rfl) ?_
    refine E.GL.run rfl rfl rfl (E.Runs.move rfl rfl) ?_
    refine E.GL.run rfl rfl rfl (E.Runs.move rfl rfl) ?_
    refine E.GL.run rfl rfl rfl (E.Runs.indexAddrA rfl rfl rfl hu27 (by assumption) (by assumption) (by assumption) (by first | rfl | assumption) rfl) ?_
    refine E.GL.run rfl rfl rfl (E.Runs.load rfl rfl hu3 (by first | assumption | exact E.blkc (by assumption) rfl | exact pw_cell_below L (by assumption))) ?_
    by_cases h16 : ¬ inR x 0 40
    · refine E.GL.st rfl rfl rfl (E.ST.callV (cap := []) rfl ent45 rfl (E.evc rfl E.evn) ((clo45 x true (iff_of_true rfl h16) _).mono ?_))
      rintro e w16 ⟨rfl, l16⟩
      refine ⟨_, rfl, ?_⟩
      replace L := below_step L l16
      refine E.GL.done ?_
      refine E.QG.code ?_
      refine E.CG.cond_t rfl ?_
      refine E.CG.seq ?_
      refine E.CG.list ?_
      refine E.GL.run rfl rfl rfl (E.Runs.move rfl rfl) ?_
      refine E.GL.run rfl rfl rfl (E.Runs.assign rfl rfl) ?_
      refine E.GL.done ?_
      refine E.QG.code ?_
      refine E.CG.ret ?_
      refine E.QG.block_ret ?_
      refine E.QG.pass_ret ?_
      refine E.QG.pass_ret ?_
      refine E.QG.block_ret ?_
      refine E.QG.pass_ret ?_
      exact E.QG.result rfl rfl ⟨_, rfl, iff_of_true (by omega) (days_bad hx h16), L⟩
    · refine E.GL.st rfl rfl rfl (E.ST.callV (cap := []) rfl ent45 rfl (E.evc rfl E.evn) ((clo45 x false (iff_of_false Bool.false_ne_true h16) _).mono ?_))
      rintro e w16 ⟨rfl, l16⟩
      refine ⟨_, rfl, ?_⟩
      replace L := below_step L l16
      refine E.GL.done ?_
      refine E.QG.code ?_
      refine E.CG.cond_f rfl ?_
      refine E.CG.skip ?_
      refine E.QG.block_normal ?_
      refine E.QG.code ?_
      refine E.CG.list ?_
      refine E.GL.run rfl rfl rfl (E.Runs.add rfl rfl rfl (IntWalk.i64_in _ (by omega))) ?_
      refine E.GL.run rfl rfl rfl (E.Runs.move rfl rfl) ?_
      refine E.GL.done ?_
      exact E.QG.round (i + 1) (E.subc rfl (E.subc rfl (E.subc rfl (E.subc rfl E.subn)))) ⟨by omega, L, days_more hok hx (Decidable.not_not.mp h16)⟩ (by omega)
  · refine E.GL.done ?_
    refine E.QG.code ?_
    refine E.CG.seq ?_
    refine E.CG.cond_f rfl ?_
    refine E.CG.exit ?_
    refine E.QG.pass_exit ?_
    refine E.QG.pass_exit ?_
    refine E.QG.block_here ?_
    refine E.QG.code ?_
    refine E.CG.seq ?_
    refine E.CG.list ?_
    refine E.GL.run rfl rfl rfl (E.Runs.assign rfl rfl) ?_
    refine E.GL.done ?_
    refine E.QG.code ?_
    refine E.CG.ret ?_
    exact E.QG.result rfl rfl ⟨_, rfl, iff_of_false (by omega) (fun k => k (days_all hok (by omega))), L⟩

set_option maxRecDepth 100000 in
set_option maxHeartbeats 8000000 in

theorem contains_calls (l : List Int) (A : Option Addr) (c : Nat) (w : World) (r : Bool) (hb : r = true ↔ ¬ DaysOk l) (hr : Kd.C kI w A l.length l) (hn : l.length ≤ 1000000) :
    Calls Try.prog 44 #[.slice A l.length c, .func (.func 45) #[] #[]] w fun e w' => e = .returned (.bool r) ∧ Below w.heap.size w w' := by
  have hu3 := Try.underlying3
  have hu27 := Try.underlying27
  refine E.enter (N := 9) Try.func44 rfl Try.ntmps44 (args := [.slice A l.length c, .func (.func 45) #[] #[]]) (by simp) ?_
  have L := Below.refl w.heap.size w
  refine E.CG.seq ?_
  refine E.CG.list ?_
  refine E.GL.run rfl rfl rfl (E.Runs.assign rfl rfl) ?_
  refine E.GL.done ?_
  refine E.QG.code ?_
  refine E.CG.seq ?_
  refine E.CG.list ?_
  refine E.GL.run rfl rfl rfl (E.Runs.move rfl rfl) ?_
  refine E.GL.run rfl rfl rfl (E.Runs.move rfl rfl) ?_
  refine E.GL.st rfl rfl rfl (E.ST.call rfl ent67 (E.evc rfl (E.evc rfl E.evn)) ((index_calls l A c _ (Kd.C_below hr L) hn).mono ?_))
  rintro e w7 ⟨q, rfl, hq, l7⟩
  refine ⟨_, rfl, ?_⟩
  replace L := below_step L l7
  refine E.GL.cmp rfl rfl rfl (fun _ h => (E.Runs.geq rfl rfl rfl h)) (fun h8 => ?_) (fun h8 => ?_)
  · refine E.GL.run rfl rfl rfl (E.Runs.assign rfl rfl) ?_
    refine E.GL.done ?_
    refine E.QG.code ?_
    refine E.CG.ret ?_
    exact E.QG.result rfl rfl ⟨by rw [hb.mpr (hq.mp h8)], L⟩
  · refine E.GL.run rfl rfl rfl (E.Runs.assign rfl rfl) ?_
    refine E.GL.done ?_
    refine E.QG.code ?_
    refine E.CG.ret ?_
    exact E.QG.result rfl rfl ⟨by rw [bool_no hb (fun k => h8 (hq.mpr k))], L⟩

set_option maxRecDepth 100000 in
set_option maxHeartbeats 8000000 in

theorem shows_calls (M : Lm) (t : List Ln) (A A1 : Option Addr) (c c1 : Nat) (burnt hours : Int) (w : World) (r : Bool) (hb : r = true ↔ showT M.nl M.nh M.ra t burnt hours) (hr : Kd.C kL w A1 t.length t) (ht : ∀ x ∈ t, PtOk x) (hn : t.length ≤ 1000000) (h0 : 0 ≤ burnt ∧ burnt ≤ 40) (h1 : 0 ≤ hours ∧ hours ≤ 40) (h2 : M.ra ≤ 40) :
    Calls Try.prog 47 #[.slice A1 t.length c1, lv M A c, .int .i64 burnt, .int .i64 hours] w fun e w' => e = .returned (.bool r) ∧ Below w.heap.size w w' := by
  have hu3 := Try.underlying3
  have hu26 := Try.underlying26
  have hu72 := Try.underlying72
  obtain ⟨z3, o3⟩ := info_some info3s (by decide)
  obtain ⟨z72, o72⟩ := info_some info72s (by decide)
  refine E.enter (N := 32) Try.func47 rfl Try.ntmps47 (args := [.slice A1 t.length c1, lv M A c, .int .i64 burnt, .int .i64 hours]) (by simp) ?_
  have L := Below.refl w.heap.size w
  refine E.CG.seq ?_
  refine E.CG.list ?_
  refine E.GL.st rfl rfl rfl (E.ST.boxZ rfl rfl rfl fun g4 w4 e4 b4 l4 => ?_)
  have h4_L : w.heap.size ≤ g4 := by rw [e4]; exact L.size
  replace L := below_step L l4
  refine E.GL.st rfl rfl rfl (E.ST.box rfl rfl fun g5 w5 e5 b5 l5 => ?_)
  have h5_L : w.heap.size ≤ g5 := by rw [e5]; exact L.size
  have n5_b4 : g4 ≠ g5 := by have := blk_lt b4; omega
  replace b4 := blk_below b4 l5
  replace L := below_step L l5
  refine E.GL.run rfl rfl rfl (E.Runs.assign rfl rfl) ?_
  refine E.GL.done ?_
  refine E.QG.code ?_
  refine E.CG.seq ?_
  refine E.CG.seq ?_
  refine E.CG.list ?_
  refine E.GL.run rfl rfl rfl (E.Runs.load1 rfl rfl hu72 rfl (by first | assumption | exact E.blkc (by assumption) rfl | exact pw_cell_below L (by assumption))) ?_
  refine E.GL.run rfl rfl rfl (E.Runs.len rfl rfl hu72) ?_
  refine E.GL.cmp rfl rfl rfl (fun _ h => (E.Runs.eql rfl rfl rfl h)) (fun h12 => ?_) (fun h12 => ?_)
  · refine E.GL.run rfl rfl rfl (E.Runs.move rfl rfl) ?_
    refine E.GL.skip rfl rfl rfl ?_
    refine E.GL.skip rfl rfl rfl ?_
    refine E.GL.skip rfl rfl rfl ?_
    refine E.GL.skip rfl rfl rfl ?_
    refine E.GL.skip rfl rfl rfl ?_
    refine E.GL.skip rfl rfl rfl ?_
    refine E.GL.run rfl rfl rfl (E.Runs.pick_t rfl rfl rfl) ?_
    refine E.GL.done ?_
    refine E.QG.code ?_
    refine E.CG.cond_t rfl ?_
    refine E.CG.seq ?_
    refine E.CG.list ?_
    refine E.GL.run rfl rfl rfl (E.Runs.assign rfl rfl) ?_
    refine E.GL.done ?_
    refine E.QG.code ?_
    refine E.CG.ret ?_
    refine E.QG.pass_ret ?_
    exact E.QG.result rfl rfl ⟨by rw [bool_no hb (fun k => by have := k.1; omega)], L⟩
  · refine E.GL.run rfl rfl rfl (E.Runs.move rfl rfl) ?_
    refine E.GL.run rfl rfl rfl (E.Runs.move rfl rfl) ?_
    refine E.GL.run rfl rfl rfl (E.Runs.move rfl rfl) ?_
    refine E.GL.run rfl rfl rfl (E.Runs.add rfl rfl rfl (IntWalk.i64_in _ (by omega))) ?_
    refine E.GL.run rfl rfl rfl (E.Runs.fieldAddr rfl rfl hu26 rfl (by assumption) rfl) ?_
    refine E.GL.run rfl rfl rfl (E.Runs.load rfl rfl hu3 (by first | assumption | exact E.blkc (by assumption) rfl | exact pw_cell_below L (by assumption))) ?_
    refine E.GL.cmp rfl rfl rfl (fun _ h => (E.Runs.gtr rfl rfl rfl h)) (fun h19 => ?_) (fun h19 => ?_)
    · refine E.GL.run rfl rfl rfl (E.Runs.pick_f rfl rfl rfl) ?_
      refine E.GL.done ?_
      refine E.QG.code ?_
      refine E.CG.cond_t rfl ?_
      refine E.CG.seq ?_
      refine E.CG.list ?_
      refine E.GL.run rfl rfl rfl (E.Runs.assign rfl rfl) ?_
      refine E.GL.done ?_
      refine E.QG.code ?_
      refine E.CG.ret ?_
      refine E.QG.pass_ret ?_
      exact E.QG.result rfl rfl ⟨by rw [bool_no hb (fun k => by have := k.2.1; omega)], L⟩
    · refine E.GL.run rfl rfl rfl (E.Runs.pick_f rfl rfl rfl) ?_
      refine E.GL.done ?_
      refine E.QG.code ?_
      refine E.CG.cond_f rfl ?_
      refine E.CG.skip ?_
      refine E.QG.code ?_
      refine E.CG.seq ?_
      refine E.CG.list ?_
      refine E.GL.run rfl rfl rfl (E.Runs.move rfl rfl) ?_
      refine E.GL.run rfl rfl rfl (E.Runs.move rfl rfl) ?_
      refine E.GL.run rfl rfl rfl (E.Runs.move rfl rfl) ?_
      refine E.GL.run rfl rfl rfl (E.Runs.add rfl rfl rfl (IntWalk.i64_in _ (by omega))) ?_
      refine E.GL.run rfl rfl rfl (E.Runs.makeFunc rfl (E.evc rfl (E.evc rfl E.evn))) ?_
      refine E.GL.st rfl rfl rfl (E.ST.call rfl ent51 (E.evc rfl (E.evc rfl (E.evc rfl E.evn))) ((last_calls 68 [.pointer (some ⟨g4, 0, none⟩), .pointer (some ⟨g5, 0, none⟩)] (fun h => keepsT M.nl M.nh t h = 1) burnt (burnt + hours) _ ent68 ⟨h0.1, by omega⟩ ⟨by omega, by omega⟩ (fun h r W hr' k1 k2 lW => clo68 M t A A1 c c1 g4 g5 h r hr' W (blk_below b4 lW) (blk_below b5 lW) (Kd.C_below hr (below_step L lW)) ht (by omega) (by omega) hn)).mono ?_))
      rintro e w26 ⟨rfl, l26⟩
      refine ⟨_, rfl, ?_⟩
      replace b4 := blk_below b4 l26
      replace b5 := blk_below b5 l26
      replace L := below_step L l26
      refine E.GL.run rfl rfl rfl (E.Runs.assign rfl rfl) ?_
      refine E.GL.done ?_
      refine E.QG.code ?_
      refine E.CG.seq ?_
      refine E.CG.list ?_
      refine E.GL.run rfl rfl rfl (E.Runs.move rfl rfl) ?_
      refine E.GL.run rfl rfl rfl (E.Runs.move rfl rfl) ?_
      refine E.GL.run rfl rfl rfl (E.Runs.move rfl rfl) ?_
      refine E.GL.run rfl rfl rfl (E.Runs.add rfl rfl rfl (IntWalk.i64_in _ (by omega))) ?_
      refine E.GL.cmp rfl rfl rfl (fun _ h => (E.Runs.eql rfl rfl rfl h)) (fun h31 => ?_) (fun h31 => ?_)
      · have hall := (last_full (so := fun h => keepsT M.nl M.nh t h = 1) h0.1 (by omega)).mp h31
        refine E.GL.run rfl rfl rfl (E.Runs.assign rfl rfl) ?_
        refine E.GL.done ?_
        refine E.QG.code ?_
        refine E.CG.ret ?_
        exact E.QG.result rfl rfl ⟨by rw [hb.mpr ⟨by omega, by omega, hall⟩], L⟩
      · have hall := fun k => h31 ((last_full (so := fun h => keepsT M.nl M.nh t h = 1) h0.1 (by omega)).mpr k)
        refine E.GL.run rfl rfl rfl (E.Runs.assign rfl rfl) ?_
        refine E.GL.done ?_
        refine E.QG.code ?_
        refine E.CG.ret ?_
        exact E.QG.result rfl rfl ⟨by rw [bool_no hb (fun k => hall k.2.2)], L⟩

set_option maxRecDepth 100000 in
set_option maxHeartbeats 8000000 in

theorem changes_calls (M : Lm) (A Ad : Option Addr) (c cd : Nat) (b : Int) (l : List Int) (w : World) (hr : Kd.C k64 w A M.gs.length M.gs) (hn : M.gs.length ≤ 1000000) (hd : Kd.C kI w Ad l.length l) (hn2 : l.length ≤ 1000000) :
    Calls Try.prog 14 #[lv M A c, .int .i64 b, .slice Ad l.length cd] w fun e w' => ∃ v, e = .returned (.tuple #[v, .int .i64 (chgE M b l)]) ∧ Kd.R kI 3 w' w.heap.size (fun _ => True) v (chgL M b l) ∧ Below w.heap.size w w' := by
  have hu3 := Try.underlying3
  have hu24 := Try.underlying24
  have hu26 := Try.underlying26
  have hu27 := Try.underlying27
  have hu72 := Try.underlying72
  obtain ⟨z3, o3⟩ := info_some info3s (by decide)
  obtain ⟨z24, o24⟩ := info_some info24s (by decide)
  obtain ⟨z72, o72⟩ := info_some info72s (by decide)
  refine E.enter (N := 64) Try.func14 rfl Try.ntmps14 (args := [lv M A c, .int .i64 b, .slice Ad l.length cd]) (by simp) ?_
  have L := Below.refl w.heap.size w
  refine E.CG.seq ?_
  refine E.CG.list ?_
  refine E.GL.st rfl rfl rfl (E.ST.box rfl rfl fun g3 w3 e3 b3 l3 => ?_)
  have h3_L : w.heap.size ≤ g3 := by rw [e3]; exact L.size
  replace L := below_step L l3
  refine E.GL.run rfl rfl rfl (E.Runs.assign rfl rfl) ?_
  refine E.GL.run rfl rfl rfl (E.Runs.assign rfl rfl) ?_
  refine E.GL.done ?_
  refine E.QG.code ?_
  refine E.CG.seq ?_
  refine E.CG.seq ?_
  refine E.CG.list ?_
  refine E.GL.run rfl rfl rfl (E.Runs.loads (cs := [.int .i64 M.fl, .int .i64 M.fh, .int .i64 M.al, .int .i64 M.ah, .int .i64 M.nl, .int .i64 M.nh, .int .i64 M.ra, .slice A M.gs.length c, .int .i64 M.wr]) rfl rfl hu26 rfl info26s (blk_cells b3)) ?_
  refine E.GL.st rfl rfl rfl (E.ST.call rfl ent39 (E.evc rfl E.evn) ((check_o M A c _ (Kd.C_below hr L) hn).mono ?_))
  rintro e w15 ⟨rfl, l15⟩
  refine ⟨_, rfl, ?_⟩
  replace b3 := blk_below b3 l15
  replace L := below_step L l15
  refine E.GL.run rfl rfl rfl (E.Runs.assign rfl rfl) ?_
  refine E.GL.done ?_
  refine E.QG.code ?_
  refine E.CG.seq ?_
  refine E.CG.list ?_
  refine E.GL.run rfl rfl rfl (E.Runs.move rfl rfl) ?_
  refine E.GL.cmpn rfl rfl rfl (fun _ h => (E.Runs.neq rfl rfl rfl h)) (fun h17 => ?_) (fun h17 => ?_)
  · have hV := fun k => h17 ((checkE_ok M).mpr k)
    refine E.GL.done ?_
    refine E.QG.code ?_
    refine E.CG.cond_t rfl ?_
    refine E.CG.seq ?_
    refine E.CG.list ?_
    refine E.GL.run rfl rfl rfl (E.Runs.move rfl rfl) ?_
    refine E.GL.run rfl rfl rfl (E.Runs.assign rfl rfl) ?_
    refine E.GL.run rfl rfl rfl (E.Runs.assign rfl rfl) ?_
    refine E.GL.done ?_
    refine E.QG.code ?_
    refine E.CG.ret ?_
    refine E.QG.pass_ret ?_
    exact E.QG.result2 rfl rfl rfl ⟨_, by rw [chgE_no (by rw [daysE_90 hV]; decide), daysE_90 hV, checkE_no hV], by rw [chgL_no (by rw [daysE_90 hV]; decide)]; exact Kd.R_nil _ _ _ _ _, L⟩
  · have hV := (checkE_ok M).mp (by omega)
    refine E.GL.done ?_
    refine E.QG.code ?_
    refine E.CG.cond_f rfl ?_
    refine E.CG.skip ?_
    refine E.QG.code ?_
    refine E.CG.seq ?_
    refine E.CG.seq ?_
    refine E.CG.list ?_
    refine E.GL.run rfl rfl rfl (E.Runs.move rfl rfl) ?_
    by_cases h20 : inR b 0 40
    · refine E.GL.st rfl rfl rfl (E.ST.call rfl ent43 (E.evc rfl (E.evc rfl (E.evc rfl E.evn))) ((within_o b 0 40 true (iff_of_true rfl h20) _).mono ?_))
      rintro e w20 ⟨rfl, l20⟩
      refine ⟨_, rfl, ?_⟩
      replace b3 := blk_below b3 l20
      replace L := below_step L l20
      refine E.GL.run rfl rfl rfl (E.Runs.not rfl rfl) ?_
      refine E.GL.run rfl rfl rfl (E.Runs.move rfl rfl) ?_
      refine E.GL.run rfl rfl rfl (E.Runs.move rfl rfl) ?_
      refine E.GL.run rfl rfl rfl (E.Runs.len rfl rfl hu27) ?_
      refine E.GL.cmp rfl rfl rfl (fun _ h => (E.Runs.gtr rfl rfl rfl h)) (fun h25 => ?_) (fun h25 => ?_)
      · refine E.GL.run rfl rfl rfl (E.Runs.pick_f rfl rfl rfl) ?_
        refine E.GL.run rfl rfl rfl (E.Runs.move rfl rfl) ?_
        refine E.GL.skip rfl rfl rfl ?_
        refine E.GL.skip rfl rfl rfl ?_
        refine E.GL.run rfl rfl rfl (E.Runs.pick_t rfl rfl rfl) ?_
        refine E.GL.done ?_
        refine E.QG.code ?_
        refine E.CG.cond_t rfl ?_
        refine E.CG.seq ?_
        refine E.CG.list ?_
        refine E.GL.run rfl rfl rfl (E.Runs.assign rfl rfl) ?_
        refine E.GL.run rfl rfl rfl (E.Runs.assign rfl rfl) ?_
        refine E.GL.done ?_
        refine E.QG.code ?_
        refine E.CG.ret ?_
        refine E.QG.pass_ret ?_
        exact E.QG.result2 rfl rfl rfl ⟨_, by rw [chgE_no (by rw [daysE_1 hV (.inr (.inl (by omega)))]; decide), daysE_1 hV (.inr (.inl (by omega)))], by rw [chgL_no (by rw [daysE_1 hV (.inr (.inl (by omega)))]; decide)]; exact Kd.R_nil _ _ _ _ _, L⟩
      · refine E.GL.run rfl rfl rfl (E.Runs.pick_f rfl rfl rfl) ?_
        refine E.GL.run rfl rfl rfl (E.Runs.move rfl rfl) ?_
        refine E.GL.run rfl rfl rfl (E.Runs.move rfl rfl) ?_
        by_cases h29 : ¬ DaysOk l
        · refine E.GL.st rfl rfl rfl (E.ST.call rfl ent44 (E.evc rfl (E.evc rfl E.evn)) ((contains_calls l Ad cd _ true (iff_of_true rfl h29) (Kd.C_below hd L) hn2).mono ?_))
          rintro e w29 ⟨rfl, l29⟩
          refine ⟨_, rfl, ?_⟩
          replace b3 := blk_below b3 l29
          replace L := below_step L l29
          refine E.GL.run rfl rfl rfl (E.Runs.pick_f rfl rfl rfl) ?_
          refine E.GL.done ?_
          refine E.QG.code ?_
          refine E.CG.cond_t rfl ?_
          refine E.CG.seq ?_
          refine E.CG.list ?_
          refine E.GL.run rfl rfl rfl (E.Runs.assign rfl rfl) ?_
          refine E.GL.run rfl rfl rfl (E.Runs.assign rfl rfl) ?_
          refine E.GL.done ?_
          refine E.QG.code ?_
          refine E.CG.ret ?_
          refine E.QG.pass_ret ?_
          exact E.QG.result2 rfl rfl rfl ⟨_, by rw [chgE_no (by rw [daysE_1 hV (.inr (.inr h29))]; decide), daysE_1 hV (.inr (.inr h29))], by rw [chgL_no (by rw [daysE_1 hV (.inr (.inr h29))]; decide)]; exact Kd.R_nil _ _ _ _ _, L⟩
        · refine E.GL.st rfl rfl rfl (E.ST.call rfl ent44 (E.evc rfl (E.evc rfl E.evn)) ((contains_calls l Ad cd _ false (iff_of_false Bool.false_ne_true h29) (Kd.C_below hd L) hn2).mono ?_))
          rintro e w29 ⟨rfl, l29⟩
          refine ⟨_, rfl, ?_⟩
          replace b3 := blk_below b3 l29
          replace L := below_step L l29
          refine E.GL.run rfl rfl rfl (E.Runs.pick_f rfl rfl rfl) ?_
          refine E.GL.done ?_
          refine E.QG.code ?_
          refine E.CG.cond_f rfl ?_
          refine E.CG.skip ?_
          refine E.QG.code ?_
          refine E.CG.seq ?_
          refine E.CG.list ?_
          refine E.GL.run rfl rfl rfl (E.Runs.loads (cs := [.int .i64 M.fl, .int .i64 M.fh, .int .i64 M.al, .int .i64 M.ah, .int .i64 M.nl, .int .i64 M.nh, .int .i64 M.ra, .slice A M.gs.length c, .int .i64 M.wr]) rfl rfl hu26 rfl info26s (blk_cells b3)) ?_
          have hs32 := L.size
          refine E.GL.st rfl rfl rfl (E.ST.call rfl ent46 (E.evc rfl E.evn) ((open_calls M A c _ hV (Kd.C_below hr L)).mono ?_))
          rintro e w32 ⟨v32, rfl, R32, l32⟩
          refine ⟨_, rfl, ?_⟩
          replace b3 := blk_below b3 l32
          replace L := below_step L l32
          replace R32 := Kd.R_lower R32 hs32
          obtain ⟨A32, c32, hv32⟩ := Kd.R_slice R32
          subst hv32
          refine E.GL.run rfl rfl rfl (E.Runs.assign rfl rfl) ?_
          refine E.GL.done ?_
          refine E.QG.code ?_
          refine E.CG.seq ?_
          refine E.CG.list ?_
          refine E.GL.run rfl rfl rfl (E.Runs.fieldAddr rfl rfl hu26 rfl (by assumption) rfl) ?_
          refine E.GL.sn rfl rfl (E.ST.storeSl (cs := [.int .i64 M.fl, .int .i64 M.fh, .int .i64 M.al, .int .i64 M.ah, .int .i64 M.nl, .int .i64 M.nh, .int .i64 M.ra, .slice A M.gs.length c, .int .i64 M.wr]) rfl z24 o24 rfl rfl b3 rfl rfl fun wS c3 lS => ?_)
          replace R32 := Kd.R_grown1 R32 rfl lS (by first | assumption | exact Kd.R_ne R32 b3 (by decide))
          replace L := E.below_own L h3_L lS
          replace b3 := c3
          clear c3
          refine E.GL.done ?_
          refine E.QG.code ?_
          refine E.CG.seq ?_
          refine E.CG.list ?_
          refine E.GL.run rfl rfl rfl (E.Runs.loads (cs := [.int .i64 M.fl, .int .i64 M.fh, .int .i64 M.al, .int .i64 M.ah, .int .i64 M.nl, .int .i64 M.nh, .int .i64 M.ra, .slice none 0 0, .int .i64 M.wr]) rfl rfl hu26 rfl info26s (blk_cells b3)) ?_
          have hs35 := L.size
          refine E.GL.st rfl rfl rfl (E.ST.call rfl ent46 (E.evc rfl E.evn) ((open_calls (fr M) none 0 _ (fr_ok hV) (Kd.C_nil _ _)).mono ?_))
          rintro e w35 ⟨v35, rfl, R35, l35⟩
          refine ⟨_, rfl, ?_⟩
          replace b3 := blk_below b3 l35
          replace R32 := Kd.R_below R32 l35
          replace L := below_step L l35
          replace R35 := Kd.R_lower R35 hs35
          obtain ⟨A35, c35, hv35⟩ := Kd.R_slice R35
          subst hv35
          refine E.GL.run rfl rfl rfl (E.Runs.assign rfl rfl) ?_
          refine E.GL.done ?_
          refine E.QG.code ?_
          refine E.CG.seq ?_
          refine E.CG.list ?_
          refine E.GL.run rfl rfl rfl (E.Runs.assign rfl rfl) ?_
          refine E.GL.done ?_
          refine E.QG.code ?_
          refine E.CG.seq ?_
          refine E.CG.seq ?_
          refine E.CG.list ?_
          refine E.GL.run rfl rfl rfl (E.Runs.move rfl rfl) ?_
          refine E.GL.run rfl rfl rfl (E.Runs.len rfl rfl hu27) ?_
          refine E.GL.run rfl rfl rfl (E.Runs.move rfl rfl) ?_
          refine E.GL.done ?_
          refine E.QG.code ?_
          refine E.CG.block ?_
          obtain ⟨_, _, C32⟩ := Kd.R_reads' R32
          obtain ⟨_, _, C35⟩ := Kd.R_reads' R35
          have hf35 := truths_few (fr_ok hV).1
          have hf32 := truths_few hV.1
          have hra : (fr M).ra ≤ 40 := hV.1.2.2.2.1.2
          have hbr : M.ra ≤ 40 := hra
          have hle35 := L.size
          have hE := daysE_0 hV h20 (by omega) (Decidable.not_not.mp h29)
          have s11_b3 := b3
          have s11_L := L
          refine E.CG.loop2 (fun (i : Nat) (s : Cs) => [(3, .pointer (some ⟨g3, 0, none⟩)), (1, .int .i64 s.b), (9, .slice s.A s.t.length s.c), (10, .slice A35 (truths (fr M)).length c35), (11, s.v), (36, .slice Ad l.length cd), (37, .int .i64 l.length), (38, .int .i64 i)]) (fun i s w' => i ≤ l.length ∧ Below w35.heap.size w35 w' ∧ Kd.R kI 3 w' w35.heap.size (fun _ => True) s.v s.out ∧ Kd.C kL w35 s.A s.t.length s.t ∧ (∀ y ∈ s.t, PtOk y) ∧ s.t.length ≤ 4010 ∧ (0 ≤ s.b ∧ s.b ≤ 40) ∧ s.out.length ≤ i ∧ chgR M b l = (chg (showT M.nl M.nh M.ra) (truths (fr M)) s.t s.b (l.drop i) i).map (s.out ++ ·)) (fun i s => l.length - i) 0 ⟨truths M, A32, c32, b, [], .slice none 0 0⟩ (E.subc rfl (E.subc rfl (E.subc rfl (E.subc rfl (E.subc rfl (E.subc rfl (E.subc rfl (E.subc rfl E.subn)))))))) ⟨Nat.zero_le _, Below.refl _ _, Kd.R_nil _ _ _ _ _, C32, fun y hy => truths_ok hV.1 hy, hf32, h20, Nat.le_refl _, by rw [List.drop_zero]; show chgR M b l = (chgR M b l).map (fun y => [] ++ y); cases chgR M b l <;> rfl⟩ ?_
          rintro i s w11 ⟨hi, lr, R11, hC, hok, hl40, hb40, hol, hch⟩
          replace b3 := blk_below b3 lr
          replace L := below_step L lr
          refine E.CG.seq ?_
          refine E.CG.list ?_
          refine E.GL.cmp rfl rfl rfl (fun _ h => (E.Runs.lss rfl rfl rfl h)) (fun h39 => ?_) (fun h39 => ?_)
          · obtain ⟨x, hx⟩ : ∃ x, l[i]? = some x := ⟨_, List.getElem?_eq_getElem (by omega)⟩
            obtain ⟨ad, eA, X⟩ := int_at hd hx
            have hxd := Decidable.not_not.mp h29 x (List.mem_of_getElem? hx)
            have hx0 := hxd.1
            have hx4 := hxd.2
            refine E.GL.done ?_
            refine E.QG.code ?_
            refine E.CG.seq ?_
            refine E.CG.cond_t rfl ?_
            refine E.CG.skip ?_
            refine E.QG.code ?_
            refine E.CG.seq ?_
            refine E.CG.block ?_
            refine E.CG.seq ?_
            refine E.CG.list ?_
            refine E.GL.run rfl rfl rfl (E.Runs.move rfl rfl) ?_
            refine E.GL.run rfl rfl rfl (E.Runs.indexAddrA rfl rfl rfl hu27 (by assumption) (by assumption) (by assumption) (by first | rfl | assumption) rfl) ?_
            refine E.GL.run rfl rfl rfl (E.Runs.load rfl rfl hu3 (by first | assumption | exact E.blkc (by assumption) rfl | exact pw_cell_below L (by assumption) | exact pw_cell_below lr (by assumption))) ?_
            refine E.GL.run rfl rfl rfl (E.Runs.assign rfl rfl) ?_
            refine E.GL.run rfl rfl rfl (E.Runs.assign rfl rfl) ?_
            refine E.GL.done ?_
            refine E.QG.code ?_
            refine E.CG.seq ?_
            refine E.CG.seq ?_
            refine E.CG.list ?_
            refine E.GL.run rfl rfl rfl (E.Runs.move rfl rfl) ?_
            refine E.GL.run rfl rfl rfl (E.Runs.loads (cs := [.int .i64 M.fl, .int .i64 M.fh, .int .i64 M.al, .int .i64 M.ah, .int .i64 M.nl, .int .i64 M.nh, .int .i64 M.ra, .slice none 0 0, .int .i64 M.wr]) rfl rfl hu26 rfl info26s (blk_cells b3)) ?_
            refine E.GL.run rfl rfl rfl (E.Runs.move rfl rfl) ?_
            by_cases h46 : showT M.nl M.nh M.ra (truths (fr M)) 0 x
            · refine E.GL.st rfl rfl rfl (E.ST.call rfl ent47 (E.evc rfl (E.evc rfl (E.evc rfl (E.evc rfl E.evn)))) ((shows_calls (fr M) (truths (fr M)) none A35 0 c35 0 x _ true (iff_of_true rfl h46) (Kd.C_below C35 lr) (fun y hy => truths_ok (fr_ok hV).1 hy) (by omega) ⟨by omega, by omega⟩ hxd hra).mono ?_))
              rintro e w46 ⟨rfl, l46⟩
              refine ⟨_, rfl, ?_⟩
              replace b3 := blk_below b3 l46
              replace R11 := Kd.R_below R11 l46
              replace L := below_step L l46
              replace lr := below_step lr l46
              refine E.GL.run rfl rfl rfl (E.Runs.not rfl rfl) ?_
              refine E.GL.done ?_
              refine E.QG.code ?_
              refine E.CG.cond_f rfl ?_
              refine E.CG.skip ?_
              refine E.QG.code ?_
              refine E.CG.seq ?_
              refine E.CG.seq ?_
              refine E.CG.list ?_
              refine E.GL.run rfl rfl rfl (E.Runs.move rfl rfl) ?_
              refine E.GL.run rfl rfl rfl (E.Runs.loads (cs := [.int .i64 M.fl, .int .i64 M.fh, .int .i64 M.al, .int .i64 M.ah, .int .i64 M.nl, .int .i64 M.nh, .int .i64 M.ra, .slice none 0 0, .int .i64 M.wr]) rfl rfl hu26 rfl info26s (blk_cells b3)) ?_
              refine E.GL.run rfl rfl rfl (E.Runs.move rfl rfl) ?_
              refine E.GL.run rfl rfl rfl (E.Runs.move rfl rfl) ?_
              by_cases h52 : showT M.nl M.nh M.ra s.t s.b x
              · have hq : s.b + x ≤ 40 := by have := h52.2.1; omega
                refine E.GL.st rfl rfl rfl (E.ST.call rfl ent47 (E.evc rfl (E.evc rfl (E.evc rfl (E.evc rfl E.evn)))) ((shows_calls (fr M) s.t none s.A 0 s.c s.b x _ true (iff_of_true rfl h52) (Kd.C_below hC lr) hok (by omega) hb40 hxd hra).mono ?_))
                rintro e w52 ⟨rfl, l52⟩
                refine ⟨_, rfl, ?_⟩
                replace b3 := blk_below b3 l52
                replace R11 := Kd.R_below R11 l52
                replace L := below_step L l52
                replace lr := below_step lr l52
                refine E.GL.run rfl rfl rfl (E.Runs.not rfl rfl) ?_
                refine E.GL.done ?_
                refine E.QG.code ?_
                refine E.CG.cond_f rfl ?_
                refine E.CG.skip ?_
                refine E.QG.code ?_
                refine E.CG.list ?_
                refine E.GL.run rfl rfl rfl (E.Runs.move rfl rfl) ?_
                refine E.GL.run rfl rfl rfl (E.Runs.move rfl rfl) ?_
                refine E.GL.run rfl rfl rfl (E.Runs.add rfl rfl rfl (IntWalk.i64_in _ (by omega))) ?_
                refine E.GL.run rfl rfl rfl (E.Runs.assign rfl rfl) ?_
                refine E.GL.done ?_
                refine E.QG.block_normal ?_
                refine E.QG.code ?_
                refine E.CG.list ?_
                refine E.GL.run rfl rfl rfl (E.Runs.add rfl rfl rfl (IntWalk.i64_in _ (by omega))) ?_
                refine E.GL.run rfl rfl rfl (E.Runs.move rfl rfl) ?_
                refine E.GL.done ?_
                exact E.QG.round2 (d := ⟨[], none, 0, 0, [], undef⟩) (i + 1) ⟨s.t, s.A, s.c, s.b + x, s.out, s.v⟩ (E.subc rfl (E.subc rfl (E.subc rfl (E.subc rfl (E.subc rfl (E.subc rfl (E.subc rfl (E.subc rfl E.subn)))))))) (by first | exact ⟨by omega, lr, R11, hC, hok, hl40, ⟨by have := hb40.1; have := hxd.1; show 0 ≤ s.b + x; omega, hq⟩, by show s.out.length ≤ i + 1; omega, by rw [hch, chg_same hx h46 h52]; rfl⟩ | exact ⟨by omega, lr, r58, C35, fun y hy => truths_ok (fr_ok hV).1 hy, hf35, ⟨by have := hxd.1; show 0 ≤ 0 + x; omega, by have := hxd.2; show 0 + x ≤ 40; omega⟩, by show (s.out ++ [(i : Int)]).length ≤ i + 1; rw [List.length_append]; show s.out.length + 1 ≤ i + 1; omega, by rw [hch, chg_new hx h46 h52, Option.map_map]; congr 1; funext y; simp⟩ | fail) (by omega)
              · refine E.GL.st rfl rfl rfl (E.ST.call rfl ent47 (E.evc rfl (E.evc rfl (E.evc rfl (E.evc rfl E.evn)))) ((shows_calls (fr M) s.t none s.A 0 s.c s.b x _ false (iff_of_false Bool.false_ne_true h52) (Kd.C_below hC lr) hok (by omega) hb40 hxd hra).mono ?_))
                rintro e w52 ⟨rfl, l52⟩
                refine ⟨_, rfl, ?_⟩
                replace b3 := blk_below b3 l52
                replace R11 := Kd.R_below R11 l52
                replace L := below_step L l52
                replace lr := below_step lr l52
                refine E.GL.run rfl rfl rfl (E.Runs.not rfl rfl) ?_
                refine E.GL.done ?_
                refine E.QG.code ?_
                refine E.CG.cond_t rfl ?_
                refine E.CG.seq ?_
                refine E.CG.list ?_
                refine E.GL.run rfl rfl rfl (E.Runs.move rfl rfl) ?_
                refine E.GL.run rfl rfl rfl (E.Runs.assign rfl rfl) ?_
                refine E.GL.run rfl rfl rfl (E.Runs.assign rfl rfl) ?_
                refine E.GL.done ?_
                refine E.QG.code ?_
                refine E.CG.list ?_
                refine E.GL.run rfl rfl rfl (E.Runs.move rfl rfl) ?_
                refine E.GL.run rfl rfl rfl (E.Runs.move rfl rfl) ?_
                refine E.GL.st rfl rfl rfl (E.ST.lit rfl (E.epc rfl E.epn) (lit27 (i : Int)) ?_)
                refine E.GL.st rfl rfl rfl (E.ST.append kI w35.heap.size (w0 := w35) (s := .tmp 55) (x := .tmp 57) rfl hu27 info3 rfl (by decide) (by decide) (i : Int) rfl rfl rfl (fun _ _ => trivial) R11 lr lr.size (by omega) fun u58 w58 r58 k58 gr58 => ?_)
                replace lr := k58
                replace L := below_step s11_L lr
                replace b3 := blk_below s11_b3 lr
                refine E.GL.run rfl rfl rfl (E.Runs.assign rfl rfl) ?_
                refine E.GL.done ?_
                refine E.QG.code ?_
                refine E.CG.list ?_
                refine E.GL.run rfl rfl rfl (E.Runs.move rfl rfl) ?_
                refine E.GL.run rfl rfl rfl (E.Runs.move rfl rfl) ?_
                refine E.GL.run rfl rfl rfl (E.Runs.add rfl rfl rfl (IntWalk.i64_in _ (by omega))) ?_
                refine E.GL.run rfl rfl rfl (E.Runs.assign rfl rfl) ?_
                refine E.GL.done ?_
                refine E.QG.block_normal ?_
                refine E.QG.code ?_
                refine E.CG.list ?_
                refine E.GL.run rfl rfl rfl (E.Runs.add rfl rfl rfl (IntWalk.i64_in _ (by omega))) ?_
                refine E.GL.run rfl rfl rfl (E.Runs.move rfl rfl) ?_
                refine E.GL.done ?_
                exact E.QG.round2 (d := ⟨[], none, 0, 0, [], undef⟩) (i + 1) ⟨truths (fr M), A35, c35, 0 + x, s.out ++ [(i : Int)], _⟩ (E.subc rfl (E.subc rfl (E.subc rfl (E.subc rfl (E.subc rfl (E.subc rfl (E.subc rfl (E.subc rfl E.subn)))))))) (by first | exact ⟨by omega, lr, R11, hC, hok, hl40, ⟨by have := hb40.1; have := hxd.1; show 0 ≤ s.b + x; omega, hq⟩, by show s.out.length ≤ i + 1; omega, by rw [hch, chg_same hx h46 h52]; rfl⟩ | exact ⟨by omega, lr, r58, C35, fun y hy => truths_ok (fr_ok hV).1 hy, hf35, ⟨by have := hxd.1; show 0 ≤ 0 + x; omega, by have := hxd.2; show 0 + x ≤ 40; omega⟩, by show (s.out ++ [(i : Int)]).length ≤ i + 1; rw [List.length_append]; show s.out.length + 1 ≤ i + 1; omega, by rw [hch, chg_new hx h46 h52, Option.map_map]; congr 1; funext y; simp⟩ | fail) (by omega)
            · refine E.GL.st rfl rfl rfl (E.ST.call rfl ent47 (E.evc rfl (E.evc rfl (E.evc rfl (E.evc rfl E.evn)))) ((shows_calls (fr M) (truths (fr M)) none A35 0 c35 0 x _ false (iff_of_false Bool.false_ne_true h46) (Kd.C_below C35 lr) (fun y hy => truths_ok (fr_ok hV).1 hy) (by omega) ⟨by omega, by omega⟩ hxd hra).mono ?_))
              rintro e w46 ⟨rfl, l46⟩
              refine ⟨_, rfl, ?_⟩
              replace b3 := blk_below b3 l46
              replace R11 := Kd.R_below R11 l46
              replace L := below_step L l46
              replace lr := below_step lr l46
              refine E.GL.run rfl rfl rfl (E.Runs.not rfl rfl) ?_
              refine E.GL.done ?_
              refine E.QG.code ?_
              refine E.CG.cond_t rfl ?_
              refine E.CG.seq ?_
              refine E.CG.list ?_
              refine E.GL.run rfl rfl rfl (E.Runs.assign rfl rfl) ?_
              refine E.GL.run rfl rfl rfl (E.Runs.assign rfl rfl) ?_
              refine E.GL.done ?_
              refine E.QG.code ?_
              refine E.CG.ret ?_
              refine E.QG.pass_ret ?_
              refine E.QG.block_ret ?_
              refine E.QG.pass_ret ?_
              refine E.QG.pass_ret ?_
              refine E.QG.block_ret ?_
              refine E.QG.pass_ret ?_
              have hno := chg_none hE (by rw [hch, chg_no hx h46]; rfl)
              exact E.QG.result2 rfl rfl rfl ⟨_, by rw [hno.1], by rw [hno.2]; exact Kd.R_nil _ _ _ _ _, L⟩
          · refine E.GL.done ?_
            refine E.QG.code ?_
            refine E.CG.seq ?_
            refine E.CG.cond_f rfl ?_
            refine E.CG.exit ?_
            refine E.QG.pass_exit ?_
            refine E.QG.pass_exit ?_
            refine E.QG.block_here ?_
            refine E.QG.code ?_
            refine E.CG.seq ?_
            refine E.CG.list ?_
            refine E.GL.run rfl rfl rfl (E.Runs.move rfl rfl) ?_
            refine E.GL.run rfl rfl rfl (E.Runs.assign rfl rfl) ?_
            refine E.GL.run rfl rfl rfl (E.Runs.assign rfl rfl) ?_
            refine E.GL.done ?_
            refine E.QG.code ?_
            refine E.CG.ret ?_
            have hso := chg_some (out := s.out) hE (by rw [hch, List.drop_of_length_le (by omega)]; simp [chg])
            exact E.QG.result2 rfl rfl rfl ⟨_, by rw [hso.1], by rw [hso.2]; exact Kd.R_lower R11 hle35, L⟩
    · refine E.GL.st rfl rfl rfl (E.ST.call rfl ent43 (E.evc rfl (E.evc rfl (E.evc rfl E.evn))) ((within_o b 0 40 false (iff_of_false Bool.false_ne_true h20) _).mono ?_))
      rintro e w20 ⟨rfl, l20⟩
      refine ⟨_, rfl, ?_⟩
      replace b3 := blk_below b3 l20
      replace L := below_step L l20
      refine E.GL.run rfl rfl rfl (E.Runs.not rfl rfl) ?_
      refine E.GL.run rfl rfl rfl (E.Runs.move rfl rfl) ?_
      refine E.GL.skip rfl rfl rfl ?_
      refine E.GL.skip rfl rfl rfl ?_
      refine E.GL.skip rfl rfl rfl ?_
      refine E.GL.run rfl rfl rfl (E.Runs.pick_t rfl rfl rfl) ?_
      refine E.GL.run rfl rfl rfl (E.Runs.move rfl rfl) ?_
      refine E.GL.skip rfl rfl rfl ?_
      refine E.GL.skip rfl rfl rfl ?_
      refine E.GL.run rfl rfl rfl (E.Runs.pick_t rfl rfl rfl) ?_
      refine E.GL.done ?_
      refine E.QG.code ?_
      refine E.CG.cond_t rfl ?_
      refine E.CG.seq ?_
      refine E.CG.list ?_
      refine E.GL.run rfl rfl rfl (E.Runs.assign rfl rfl) ?_
      refine E.GL.run rfl rfl rfl (E.Runs.assign rfl rfl) ?_
      refine E.GL.done ?_
      refine E.QG.code ?_
      refine E.CG.ret ?_
      refine E.QG.pass_ret ?_
      exact E.QG.result2 rfl rfl rfl ⟨_, by rw [chgE_no (by rw [daysE_1 hV (.inl h20)]; decide), daysE_1 hV (.inl h20)], by rw [chgL_no (by rw [daysE_1 hV (.inl h20)]; decide)]; exact Kd.R_nil _ _ _ _ _, L⟩

end Go.Proofs.Ytbajpjnloikpdaa.T
