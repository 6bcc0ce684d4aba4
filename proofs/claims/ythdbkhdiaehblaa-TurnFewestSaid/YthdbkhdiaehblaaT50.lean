/- TurnFewest: the least number of teams; the walk. -/
import Derived.Test.YthdbkhdiaehblaaT49
namespace Go.Proofs.Ythdbkhdiaehblaa.T
open Go.RowKit Go.Proofs.YthdbkhdiaehblaaW.PrintWords Go.Proofs.YthdbkhdiaehblaaW.PrintMore
open Go.Proofs.Ythdbkhdiaehblaa.P
set_option linter.unusedVariables false
set_option linter.unusedSimpArgs false

theorem fewFrom_spec (H : Hs) (l : List S36) : ∀ (k : Nat) (n : Int), (∃ j, n ≤ j ∧ j < n + k ∧ fewFrom H l k n = (j, 0) ∧ CanX H l j [] ∧ ∀ m, n ≤ m → m < j → ¬ CanX H l m []) ∨ (fewFrom H l k n = (0, 3) ∧ ∀ m, n ≤ m → m < n + k → ¬ CanX H l m [])
  | 0, n => .inr ⟨rfl, fun m h1 h2 => by omega⟩
  | k + 1, n => by
    by_cases h : CanX H l n []
    · exact .inl ⟨n, Int.le_refl _, by omega, by simp only [fewFrom, if_pos h], h, fun m h1 h2 => by omega⟩
    · simp only [fewFrom, if_neg h]
      have step : ∀ m, n ≤ m → ¬ m = n → n + 1 ≤ m := fun m h1 h2 => by omega
      rcases fewFrom_spec H l k (n + 1) with ⟨j, h1, h2, h3, h4, h5⟩ | ⟨h1, h2⟩
      · refine .inl ⟨j, by omega, by omega, h3, h4, fun m k1 k2 => ?_⟩
        by_cases e : m = n
        · subst e
          exact h
        · exact h5 m (step m k1 e) k2
      · refine .inr ⟨h1, fun m k1 k2 => ?_⟩
        by_cases e : m = n
        · subst e
          exact h
        · exact h2 m (step m k1 e) (by omega)
theorem canX_mono {H : Hs} {l : List S36} {n m : Int} (h : CanX H l n []) (hm : n ≤ m) : CanX H l m [] := by
  obtain ⟨ts, T, p, k⟩ := h
  exact ⟨ts, ⟨T.1, fun t ht => by have := T.2 t ht; omega⟩, p, k⟩
theorem few_cases {H : Hs} {l : List S36} (V : Valid H l) : ((fewE H l).2 = 0 ∧ 1 ≤ (fewE H l).1 ∧ (fewE H l).1 ≤ 4 ∧ (fewE H l).1 ≤ H.teams ∧ asgE H l = 0) ∨ ((fewE H l).2 = 0 ∧ 1 ≤ (fewE H l).1 ∧ (fewE H l).1 ≤ 4 ∧ ¬ (fewE H l).1 ≤ H.teams ∧ asgE H l = 3) ∨ ((fewE H l).2 = 3 ∧ asgE H l = 3) := by
  have hv := (checkE_valid H l).mpr V
  have ht := V.1.1
  simp only [fewE, asgE, if_pos hv]
  rcases fewFrom_spec H l 4 1 with ⟨j, h1, h2, h3, h4, h5⟩ | ⟨h1, h2⟩
  · rw [h3]
    by_cases k : j ≤ H.teams
    · exact .inl ⟨rfl, h1, by show j ≤ 4; omega, k, by rw [if_pos (canX_mono h4 k)]⟩
    · exact .inr (.inl ⟨rfl, h1, by show j ≤ 4; omega, k, by rw [if_neg (h5 _ (by omega) (by omega))]⟩)
  · rw [h1]
    exact .inr (.inr ⟨rfl, by rw [if_neg (h2 _ (by omega) (by omega))]⟩)
theorem few_most {H : Hs} {l : List S36} {m : Int} (V : Valid H l) (h : CanX H l m []) (h1 : 1 ≤ m) (h2 : m ≤ 4) : (fewE H l).2 = 0 ∧ (fewE H l).1 ≤ m := by
  have hv := (checkE_valid H l).mpr V
  simp only [fewE, if_pos hv]
  rcases fewFrom_spec H l 4 1 with ⟨j, k1, k2, k3, k4, k5⟩ | ⟨k1, k2⟩
  · rw [k3]
    refine ⟨rfl, ?_⟩
    show j ≤ m
    by_cases e : j ≤ m
    · exact e
    · exact absurd h (k5 m h1 (by omega))
  · exact absurd h (k2 m h1 (by omega))
/-- How many of the first teams are among some. -/
def cntT (us : List Int) (t : Nat) : Nat := (((List.range t).map (fun k : Nat => (k : Int))).filter (· ∈ us)).length
theorem cntT_in {us : List Int} {t : Nat} (h : (t : Int) ∈ us) : (cntT us (t + 1) : Int) = (cntT us t : Int) + 1 := by
  unfold cntT
  rw [List.range_succ, List.map_append, List.filter_append]
  simp [h]
theorem cntT_out {us : List Int} {t : Nat} (h : ¬ (t : Int) ∈ us) : (cntT us (t + 1) : Int) = (cntT us t : Int) := by
  unfold cntT
  rw [List.range_succ, List.map_append, List.filter_append]
  simp [h]
theorem cntT_le (us : List Int) (t : Nat) : cntT us t ≤ t := by
  unfold cntT
  refine Nat.le_trans (List.length_filter_le _ _) ?_
  simp
theorem withT_put : ∀ (l : List S36) (ts : List Int) (i : Nat) (s : S36) (t : Int), l[i]? = some s → ts[i]? = some t → (withT l ts)[i]? = some (teamS s t)
  | [], _, _, _, _, h, _ => by simp at h
  | _ :: _, [], _, _, _, _, h => by simp at h
  | a :: l, b :: ts, 0, s, t, h, k => by
    simp at h k
    subst h k
    rfl
  | a :: l, b :: ts, i + 1, s, t, h, k => withT_put l ts i s t (by simpa using h) (by simpa using k)
theorem morning_rd {x : Int} (h0 : 0 ≤ x) (h1 : x < 4) : rd (dayAt 6 4).done x = -1 := by
  have : x = 0 ∨ x = 1 ∨ x = 2 ∨ x = 3 := by omega
  rcases this with rfl | rfl | rfl | rfl <;> rfl
theorem canX_of {H : Hs} {l : List S36} {us : List Int} (hl : us.length = l.length) (V4 : Valid (four H) (withT l us)) (h : ¬ 0 ≤ (lateE (four H) (withT l us)).1) : CanX H l (mx 1 (cntT us 4)) [] := by
  have hus : ∀ x ∈ us, 0 ≤ x ∧ x < 4 := by
    intro x hx
    obtain ⟨i, hi⟩ := List.mem_iff_getElem?.mp hx
    have hil := (List.getElem?_eq_some_iff.1 hi).1
    have := valid_slots V4 _ (List.mem_of_getElem? (withT_put l us i _ x (List.getElem?_eq_getElem (by omega)) hi))
    have h4 : 0 ≤ x ∧ x ≤ 4 - 1 := this.1.2.2.2
    omega
  have hok : okT (pcL H) H (dayAt 6 4) (withT l us) := by
    have hv := (checkE_valid _ _).mpr V4
    simp only [lateE, if_pos hv, lateDay_four] at h
    rcases late_ok (pcL H) H (withT l us) (dayAt 6 4) 0 (Int.le_refl _) with ⟨k, _⟩ | ⟨_, k⟩
    · exact k
    · exact absurd k h
  obtain ⟨D, hD⟩ : ∃ D, D = ((List.range 4).map (fun k : Nat => (k : Int))).filter (· ∈ us) := ⟨_, rfl⟩
  have hc : D.length = cntT us 4 := by rw [hD]; rfl
  have hc4 := cntT_le us 4
  have mem : ∀ x ∈ us, x ∈ D := by
    intro x hx
    have := hus x hx
    rw [hD, List.mem_filter]
    refine ⟨List.mem_map.mpr ⟨x.toNat, List.mem_range.mpr (by omega), by omega⟩, by simpa using hx⟩
  have lt : ∀ x ∈ us, D.idxOf x < D.length := fun x hx => List.idxOf_lt_length_iff.mpr (mem x hx)
  have := okT_map (p := pcL H) (H := H) (pcL_same H) (U := fun x => x ∈ us) (f := fun x => ((D.idxOf x : Nat) : Int)) hus (fun x hx => by have := lt x hx; omega) (fun x y hx hy e => by
      have e' : D.idxOf x = D.idxOf y := by omega
      have h1 := List.getElem_idxOf (lt x hx)
      have h2 := List.getElem_idxOf (lt y hy)
      rw [← h1, ← h2]
      simp only [e']) l us (dayAt 6 4) (dayAt 6 4) rfl morning_ok.hm morning_ok.hm (fun x hx => by
      have := lt x hx
      have := hus x hx
      rw [morning_rd (by omega) (by omega), morning_rd (by omega) (by omega)]) (fun t ht => ht) hl hok
  refine canX_nil.mpr ⟨_, ⟨by simpa using hl, fun t ht => ?_⟩, this⟩
  obtain ⟨x, hx, rfl⟩ := List.mem_map.mp ht
  have := lt x hx
  unfold mx
  split <;> omega
theorem lateE_ok {H : Hs} {l : List S36} (h : Valid H l) : (lateE H l).2.2 = 0 := by
  simp only [lateE, if_pos ((checkE_valid H l).mpr h)]
theorem all_less {us : List Int} {j t : Nat} (hj : ∀ k, k < j → us[k]? ≠ some (t : Int)) (h : us.length ≤ j) : ¬ (t : Int) ∈ us := fun hm => by
  obtain ⟨k, hk⟩ := List.mem_iff_getElem?.mp hm
  exact hj k (by have := (List.getElem?_eq_some_iff.1 hk).1; omega) hk
theorem next_less {us : List Int} {j t : Nat} {x : Int} (hj : ∀ k, k < j → us[k]? ≠ some (t : Int)) (hx : us[j]? = some x) (h : ¬ x = (t : Int)) : ∀ k, k < j + 1 → us[k]? ≠ some (t : Int) := by
  intro k hk e
  by_cases hkj : k = j
  · subst hkj
    rw [hx] at e
    exact h (Option.some.inj e)
  · exact hj k (by omega) e
set_option maxRecDepth 100000 in
set_option maxHeartbeats 8000000 in

theorem fewest_law (H : Hs) (l : List S36) (us : List Int) (A1 A3 : Option Addr) (c1 c3 : Nat) (w : World) (hr : Kd.C k36 w A1 l.length l) (hc : l.length ≤ c1) (hR : Kd.C kI w A3 us.length us) :
    Calls Try.prog 12 #[hv H, .slice A1 l.length c1, .slice A3 us.length c3] w fun e w' => e = .returned (.bool true) ∧ Below w.heap.size w w' := by
  have hu3 := Try.underlying3
  have hu23 := Try.underlying23
  have hu25 := Try.underlying25
  have hu26 := Try.underlying26
  have hu47 := Try.underlying47
  obtain ⟨z3, o3⟩ := info_some info3s (by decide)
  obtain ⟨z23, o23⟩ := info_some info23s (by decide)
  obtain ⟨z36, o36⟩ := info_some info36s (by decide)
  refine E.enter (N := 174) Try.func12 rfl Try.ntmps12 (args := [hv H, .slice A1 l.length c1, .slice A3 us.length c3]) (by simp) ?_
  have L := Below.refl w.heap.size w
  refine E.CG.seq ?_
  refine E.CG.list ?_
  refine E.GL.st rfl rfl rfl (E.ST.box rfl rfl fun g3 w3 e3 b3 l3 => ?_)
  have h3_L : w.heap.size ≤ g3 := by rw [e3]; exact L.size
  replace L := below_step L l3
  refine E.GL.run rfl rfl rfl (E.Runs.assign rfl rfl) ?_
  refine E.GL.done ?_
  refine E.QG.code ?_
  refine E.CG.seq ?_
  refine E.CG.seq ?_
  refine E.CG.list ?_
  refine E.GL.run rfl rfl rfl (E.Runs.loads (cs := [.int .i64 H.teams, .int .i64 H.walk, .int .i64 H.early, .int .i64 H.foyer, .int .i64 H.dl, .int .i64 H.dh, .int .i64 H.cl, .int .i64 H.ch]) rfl rfl hu25 rfl info25s (blk_cells b3)) ?_
  refine E.GL.run rfl rfl rfl (E.Runs.move rfl rfl) ?_
  by_cases h25 : Valid H l
  · have hn12 := h25.2.1
    refine E.GL.st rfl rfl rfl (E.ST.call rfl ent13 (E.evc rfl (E.evc rfl E.evn)) ((valid_row H l A1 c1 _ true (iff_of_true rfl h25) (Kd.C_below hr L) hc).mono ?_))
    rintro e w25 ⟨rfl, l25⟩
    refine ⟨_, rfl, ?_⟩
    replace b3 := blk_below b3 l25
    replace L := below_step L l25
    refine E.GL.run rfl rfl rfl (E.Runs.not rfl rfl) ?_
    refine E.GL.run rfl rfl rfl (E.Runs.move rfl rfl) ?_
    refine E.GL.run rfl rfl rfl (E.Runs.move rfl rfl) ?_
    refine E.GL.run rfl rfl rfl (E.Runs.len rfl rfl hu26) ?_
    refine E.GL.cmp rfl rfl rfl (fun _ h => (E.Runs.gtr rfl rfl rfl h)) (fun h30 => ?_) (fun h30 => ?_)
    · refine E.GL.run rfl rfl rfl (E.Runs.pick_f rfl rfl rfl) ?_
      refine E.GL.run rfl rfl rfl (E.Runs.move rfl rfl) ?_
      refine E.GL.skip rfl rfl rfl ?_
      refine E.GL.skip rfl rfl rfl ?_
      refine E.GL.skip rfl rfl rfl ?_
      refine E.GL.skip rfl rfl rfl ?_
      refine E.GL.skip rfl rfl rfl ?_
      refine E.GL.run rfl rfl rfl (E.Runs.pick_t rfl rfl rfl) ?_
      refine E.GL.done ?_
      refine E.QG.code ?_
      refine E.CG.cond_t rfl ?_
      refine E.CG.seq ?_
      refine E.CG.list ?_
      refine E.GL.st rfl rfl rfl (E.ST.call rfl ent14 E.evn ((works_calls _).mono ?_))
      rintro e w39 ⟨rfl, l39⟩
      refine ⟨_, rfl, ?_⟩
      replace b3 := blk_below b3 l39
      replace L := below_step L l39
      refine E.GL.run rfl rfl rfl (E.Runs.assign rfl rfl) ?_
      refine E.GL.done ?_
      refine E.QG.code ?_
      refine E.CG.ret ?_
      refine E.QG.pass_ret ?_
      exact E.QG.result rfl rfl ⟨rfl, L⟩
    · refine E.GL.run rfl rfl rfl (E.Runs.pick_f rfl rfl rfl) ?_
      refine E.GL.run rfl rfl rfl (E.Runs.move rfl rfl) ?_
      refine E.GL.run rfl rfl rfl (E.Runs.move rfl rfl) ?_
      refine E.GL.run rfl rfl rfl (E.Runs.len rfl rfl hu47) ?_
      refine E.GL.run rfl rfl rfl (E.Runs.move rfl rfl) ?_
      refine E.GL.run rfl rfl rfl (E.Runs.len rfl rfl hu26) ?_
      refine E.GL.cmpn rfl rfl rfl (fun _ h => (E.Runs.neq rfl rfl rfl h)) (fun h37 => ?_) (fun h37 => ?_)
      · refine E.GL.run rfl rfl rfl (E.Runs.pick_f rfl rfl rfl) ?_
        refine E.GL.done ?_
        refine E.QG.code ?_
        refine E.CG.cond_t rfl ?_
        refine E.CG.seq ?_
        refine E.CG.list ?_
        refine E.GL.st rfl rfl rfl (E.ST.call rfl ent14 E.evn ((works_calls _).mono ?_))
        rintro e w39 ⟨rfl, l39⟩
        refine ⟨_, rfl, ?_⟩
        replace b3 := blk_below b3 l39
        replace L := below_step L l39
        refine E.GL.run rfl rfl rfl (E.Runs.assign rfl rfl) ?_
        refine E.GL.done ?_
        refine E.QG.code ?_
        refine E.CG.ret ?_
        refine E.QG.pass_ret ?_
        exact E.QG.result rfl rfl ⟨rfl, L⟩
      · have hlu : us.length = l.length := by omega
        have hn6 : l.length ≤ 6 := by omega
        refine E.GL.run rfl rfl rfl (E.Runs.pick_f rfl rfl rfl) ?_
        refine E.GL.done ?_
        refine E.QG.code ?_
        refine E.CG.cond_f rfl ?_
        refine E.CG.skip ?_
        refine E.QG.code ?_
        refine E.CG.seq ?_
        refine E.CG.list ?_
        refine E.GL.run rfl rfl rfl (E.Runs.loads (cs := [.int .i64 H.teams, .int .i64 H.walk, .int .i64 H.early, .int .i64 H.foyer, .int .i64 H.dl, .int .i64 H.dh, .int .i64 H.cl, .int .i64 H.ch]) rfl rfl hu25 rfl info25s (blk_cells b3)) ?_
        refine E.GL.run rfl rfl rfl (E.Runs.move rfl rfl) ?_
        refine E.GL.st rfl rfl rfl (E.ST.call rfl ent36 (E.evc rfl (E.evc rfl E.evn)) ((fewest_own H l A1 c1 _ (by omega) (Kd.C_below hr L) hc).mono ?_))
        rintro e w43 ⟨rfl, l43⟩
        refine ⟨_, rfl, ?_⟩
        replace b3 := blk_below b3 l43
        replace L := below_step L l43
        refine E.GL.run rfl rfl rfl (E.Runs.move rfl rfl) ?_
        refine E.GL.run rfl rfl rfl (E.Runs.extract rfl rfl rfl) ?_
        refine E.GL.run rfl rfl rfl (E.Runs.extract rfl rfl rfl) ?_
        refine E.GL.run rfl rfl rfl (E.Runs.assign rfl rfl) ?_
        refine E.GL.run rfl rfl rfl (E.Runs.assign rfl rfl) ?_
        refine E.GL.done ?_
        refine E.QG.code ?_
        refine E.CG.seq ?_
        refine E.CG.list ?_
        refine E.GL.run rfl rfl rfl (E.Runs.loads (cs := [.int .i64 H.teams, .int .i64 H.walk, .int .i64 H.early, .int .i64 H.foyer, .int .i64 H.dl, .int .i64 H.dh, .int .i64 H.cl, .int .i64 H.ch]) rfl rfl hu25 rfl info25s (blk_cells b3)) ?_
        refine E.GL.run rfl rfl rfl (E.Runs.move rfl rfl) ?_
        refine E.GL.st rfl rfl rfl (E.ST.call rfl ent35 (E.evc rfl (E.evc rfl E.evn)) ((assign_own H l A1 c1 _ (by omega) (Kd.C_below hr L) hc).mono ?_))
        rintro e w49 ⟨v49, ts, rfl, R49, ht1, ht2, l49⟩
        refine ⟨_, rfl, ?_⟩
        replace b3 := blk_below b3 l49
        replace L := below_step L l49
        obtain ⟨A49, c49, h49⟩ := Kd.R_slice R49
        subst h49
        refine E.GL.run rfl rfl rfl (E.Runs.move rfl rfl) ?_
        refine E.GL.run rfl rfl rfl (E.Runs.extract rfl rfl rfl) ?_
        refine E.GL.run rfl rfl rfl (E.Runs.extract rfl rfl rfl) ?_
        refine E.GL.run rfl rfl rfl (E.Runs.assign rfl rfl) ?_
        refine E.GL.run rfl rfl rfl (E.Runs.assign rfl rfl) ?_
        refine E.GL.done ?_
        refine E.QG.code ?_
        refine E.CG.seq ?_
        refine E.CG.seq ?_
        refine E.CG.list ?_
        refine E.GL.run rfl rfl rfl (E.Runs.move rfl rfl) ?_
        rcases few_cases h25 with ⟨q1, q2, q3, q4, q5⟩ | ⟨q1, q2, q3, q4, q5⟩ | ⟨q1, q5⟩
        · refine E.GL.run rfl rfl rfl (E.Runs.neq rfl rfl rfl (E.ne_f q1)) ?_
          refine E.GL.run rfl rfl rfl (E.Runs.move rfl rfl) ?_
          refine E.GL.skip rfl rfl rfl ?_
          refine E.GL.skip rfl rfl rfl ?_
          refine E.GL.run rfl rfl rfl (E.Runs.pick_f rfl rfl rfl) ?_
          refine E.GL.run rfl rfl rfl (E.Runs.move rfl rfl) ?_
          refine E.GL.run rfl rfl rfl (E.Runs.move rfl rfl) ?_
          refine E.GL.run rfl rfl rfl (E.Runs.neq rfl rfl rfl (E.ne_f q5)) ?_
          refine E.GL.run rfl rfl rfl (E.Runs.move rfl rfl) ?_
          refine E.GL.skip rfl rfl rfl ?_
          refine E.GL.skip rfl rfl rfl ?_
          refine E.GL.run rfl rfl rfl (E.Runs.pick_f rfl rfl rfl) ?_
          refine E.GL.run rfl rfl rfl (E.Runs.pick_f rfl rfl rfl) ?_
          refine E.GL.run rfl rfl rfl (E.Runs.move rfl rfl) ?_
          refine E.GL.run rfl rfl rfl (E.Runs.move rfl rfl) ?_
          refine E.GL.run rfl rfl rfl (E.Runs.eql rfl rfl rfl (decide_eq_true q5)) ?_
          refine E.GL.run rfl rfl rfl (E.Runs.move rfl rfl) ?_
          refine E.GL.run rfl rfl rfl (E.Runs.eql rfl rfl rfl (decide_eq_true q1)) ?_
          refine E.GL.run rfl rfl rfl (E.Runs.move rfl rfl) ?_
          refine E.GL.run rfl rfl rfl (E.Runs.move rfl rfl) ?_
          refine E.GL.run rfl rfl rfl (E.Runs.fieldAddr rfl rfl hu25 rfl (by assumption) rfl) ?_
          refine E.GL.run rfl rfl rfl (E.Runs.load rfl rfl hu3 (by first | assumption | exact E.blkc (by assumption) rfl | exact pw_cell_below L (by assumption))) ?_
          refine E.GL.run rfl rfl rfl (E.Runs.leq rfl rfl rfl (decide_eq_true q4)) ?_
          refine E.GL.run rfl rfl rfl (E.Runs.pick_t rfl rfl rfl) ?_
          refine E.GL.run rfl rfl rfl (E.Runs.neqv rfl rfl rfl rfl (fun _ _ _ => rfl) (bool_equal _ _) rfl) ?_
          refine E.GL.run rfl rfl rfl (E.Runs.pick_f rfl rfl rfl) ?_
          refine E.GL.run rfl rfl rfl (E.Runs.move rfl rfl) ?_
          refine E.GL.run rfl rfl rfl (E.Runs.move rfl rfl) ?_
          refine E.GL.run rfl rfl rfl (E.Runs.eql rfl rfl rfl (decide_eq_true q1)) ?_
          refine E.GL.run rfl rfl rfl (E.Runs.move rfl rfl) ?_
          refine E.GL.run rfl rfl rfl (E.Runs.move rfl rfl) ?_
          refine E.GL.run rfl rfl rfl (E.Runs.lss rfl rfl rfl (decide_eq_false (by omega))) ?_
          refine E.GL.run rfl rfl rfl (E.Runs.move rfl rfl) ?_
          refine E.GL.run rfl rfl rfl (E.Runs.move rfl rfl) ?_
          refine E.GL.run rfl rfl rfl (E.Runs.gtr rfl rfl rfl (decide_eq_false (by omega))) ?_
          refine E.GL.run rfl rfl rfl (E.Runs.pick_f rfl rfl rfl) ?_
          refine E.GL.run rfl rfl rfl (E.Runs.pick_t rfl rfl rfl) ?_
          refine E.GL.run rfl rfl rfl (E.Runs.pick_f rfl rfl rfl) ?_
          refine E.GL.done ?_
          refine E.QG.code ?_
          refine E.CG.cond_f rfl ?_
          refine E.CG.skip ?_
          refine E.QG.code ?_
          refine E.CG.seq ?_
          refine E.CG.seq ?_
          refine E.CG.list ?_
          refine E.GL.run rfl rfl rfl (E.Runs.move rfl rfl) ?_
          refine E.GL.run rfl rfl rfl (E.Runs.eql rfl rfl rfl (decide_eq_true q5)) ?_
          refine E.GL.done ?_
          refine E.QG.code ?_
          refine E.CG.cond_t rfl ?_
          refine E.CG.seq ?_
          obtain ⟨_, _, C49⟩ := Kd.R_reads' R49
          obtain ⟨T, hok⟩ := ht2 q5
          refine E.CG.list ?_
          refine E.GL.run rfl rfl rfl (E.Runs.move rfl rfl) ?_
          refine E.GL.run rfl rfl rfl (E.Runs.move rfl rfl) ?_
          refine E.GL.st rfl rfl rfl (E.ST.call rfl ent39 (E.evc rfl (E.evc rfl E.evn)) ((with_row l ts A1 A49 c1 c49 _ (by omega) (Kd.C_below hr L) hc C49).mono ?_))
          rintro e w95 ⟨Aw, cw, rfl, kw, rw_, l95⟩
          refine ⟨_, rfl, ?_⟩
          replace b3 := blk_below b3 l95
          replace R49 := Kd.R_below R49 l95
          replace L := below_step L l95
          have lw := Below.refl w95.heap.size w95
          refine E.GL.run rfl rfl rfl (E.Runs.assign rfl rfl) ?_
          refine E.GL.done ?_
          refine E.QG.code ?_
          refine E.CG.seq ?_
          refine E.CG.seq ?_
          refine E.CG.list ?_
          refine E.GL.run rfl rfl rfl (E.Runs.move rfl rfl) ?_
          refine E.GL.run rfl rfl rfl (E.Runs.len rfl rfl hu47) ?_
          refine E.GL.run rfl rfl rfl (E.Runs.move rfl rfl) ?_
          refine E.GL.run rfl rfl rfl (E.Runs.len rfl rfl hu26) ?_
          refine E.GL.run rfl rfl rfl (E.Runs.neq rfl rfl rfl (E.ne_f (by have := T.1; omega))) ?_
          refine E.GL.run rfl rfl rfl (E.Runs.move rfl rfl) ?_
          refine E.GL.run rfl rfl rfl (E.Runs.loads (cs := [.int .i64 H.teams, .int .i64 H.walk, .int .i64 H.early, .int .i64 H.foyer, .int .i64 H.dl, .int .i64 H.dh, .int .i64 H.cl, .int .i64 H.ch]) rfl rfl hu25 rfl info25s (blk_cells b3)) ?_
          refine E.GL.run rfl rfl rfl (E.Runs.move rfl rfl) ?_
          refine E.GL.st rfl rfl rfl (E.ST.call rfl ent19 (E.evc rfl (E.evc rfl E.evn)) ((check_ref H (withT l ts) Aw cw _ (by rw [withT_length]; omega) (Kd.C_below rw_ lw) kw).mono ?_))
          rintro e w104 ⟨rfl, l104⟩
          refine ⟨_, rfl, ?_⟩
          replace b3 := blk_below b3 l104
          replace R49 := Kd.R_below R49 l104
          replace L := below_step L l104
          replace lw := below_step lw l104
          refine E.GL.run rfl rfl rfl (E.Runs.neq rfl rfl rfl (E.ne_f ((checkE_valid H _).mpr (valid_with h25 T)))) ?_
          refine E.GL.run rfl rfl rfl (E.Runs.pick_f rfl rfl rfl) ?_
          refine E.GL.done ?_
          refine E.QG.code ?_
          refine E.CG.cond_f rfl ?_
          refine E.CG.skip ?_
          refine E.QG.code ?_
          refine E.CG.seq ?_
          refine E.CG.list ?_
          refine E.GL.run rfl rfl rfl (E.Runs.loads (cs := [.int .i64 H.teams, .int .i64 H.walk, .int .i64 H.early, .int .i64 H.foyer, .int .i64 H.dl, .int .i64 H.dh, .int .i64 H.cl, .int .i64 H.ch]) rfl rfl hu25 rfl info25s (blk_cells b3)) ?_
          refine E.GL.run rfl rfl rfl (E.Runs.move rfl rfl) ?_
          refine E.GL.st rfl rfl rfl (E.ST.call rfl ent23 (E.evc rfl (E.evc rfl E.evn)) ((late_own H (withT l ts) Aw cw _ (by rw [withT_length]; omega) (Kd.C_below rw_ lw) kw).mono ?_))
          rintro e w110 ⟨rfl, l110⟩
          refine ⟨_, rfl, ?_⟩
          replace b3 := blk_below b3 l110
          replace R49 := Kd.R_below R49 l110
          replace L := below_step L l110
          replace lw := below_step lw l110
          refine E.GL.run rfl rfl rfl (E.Runs.move rfl rfl) ?_
          refine E.GL.run rfl rfl rfl (E.Runs.extract rfl rfl rfl) ?_
          refine E.GL.run rfl rfl rfl (E.Runs.extract rfl rfl rfl) ?_
          refine E.GL.run rfl rfl rfl (E.Runs.extract rfl rfl rfl) ?_
          refine E.GL.run rfl rfl rfl (E.Runs.assign rfl rfl) ?_
          refine E.GL.run rfl rfl rfl (E.Runs.assign rfl rfl) ?_
          refine E.GL.run rfl rfl rfl (E.Runs.assign rfl rfl) ?_
          refine E.GL.done ?_
          refine E.QG.code ?_
          refine E.CG.seq ?_
          refine E.CG.list ?_
          refine E.GL.run rfl rfl rfl (E.Runs.move rfl rfl) ?_
          refine E.GL.run rfl rfl rfl (E.Runs.neq rfl rfl rfl (E.ne_f (with_late h25 T hok).2)) ?_
          refine E.GL.run rfl rfl rfl (E.Runs.move rfl rfl) ?_
          refine E.GL.run rfl rfl rfl (E.Runs.move rfl rfl) ?_
          refine E.GL.run rfl rfl rfl (E.Runs.neq rfl rfl rfl (E.ne_f (with_late h25 T hok).1)) ?_
          refine E.GL.run rfl rfl rfl (E.Runs.pick_f rfl rfl rfl) ?_
          refine E.GL.done ?_
          refine E.QG.code ?_
          refine E.CG.cond_f rfl ?_
          refine E.CG.skip ?_
          refine E.QG.code ?_
          refine E.CG.seq ?_
          refine E.CG.list ?_
          refine E.GL.run rfl rfl rfl (E.Runs.loads (cs := [.int .i64 H.teams, .int .i64 H.walk, .int .i64 H.early, .int .i64 H.foyer, .int .i64 H.dl, .int .i64 H.dh, .int .i64 H.cl, .int .i64 H.ch]) rfl rfl hu25 rfl info25s (blk_cells b3)) ?_
          refine E.GL.st rfl rfl rfl (E.ST.alloc rfl info25z fun g15 w15 e15 b15 l15 => ?_)
          have h15_L : w.heap.size ≤ g15 := by rw [e15]; exact L.size
          have h15_lw : w95.heap.size ≤ g15 := by rw [e15]; exact lw.size
          have n15_b3 : g3 ≠ g15 := by have := blk_lt b3; omega
          have n15_R49 : some g15 ≠ (Value.slice A49 ts.length c49).ownBlock := fun h => by have := Kd.R_lt R49 _ h.symm; omega
          replace b3 := blk_below b3 l15
          replace R49 := Kd.R_below R49 l15
          replace L := below_step L l15
          replace lw := below_step lw l15
          refine E.GL.store_whole rfl rfl rfl rfl rfl b15 rfl info25s (eight_one _ _ _ _ _ _ _ _) fun wS14_2 c15 lS14_2 => ?_
          replace b3 := blk_grown b3 lS14_2 (E.nes (by first | assumption | exact Ne.symm (by assumption)))
          replace R49 := Kd.R_grown1 R49 rfl lS14_2 (by first | assumption | exact Kd.R_ne R49 b15 (by decide))
          replace L := E.below_own L h15_L lS14_2
          replace lw := E.below_own lw h15_lw lS14_2
          replace b15 := c15
          clear c15
          refine E.GL.done ?_
          refine E.QG.code ?_
          refine E.CG.seq ?_
          refine E.CG.list ?_
          refine E.GL.run rfl rfl rfl (E.Runs.fieldAddr rfl rfl hu25 rfl (by assumption) rfl) ?_
          refine E.GL.sn rfl rfl (E.ST.store rfl (by assumption) (by assumption) rfl rfl b15 rfl (show _ = #[.int .i64 4, .int .i64 H.walk, .int .i64 H.early, .int .i64 H.foyer, .int .i64 H.dl, .int .i64 H.dh, .int .i64 H.cl, .int .i64 H.ch] from rfl) fun wS15_1 c15 lS15_1 => ?_)
          replace b3 := blk_grown b3 lS15_1 (E.nes (by first | assumption | exact Ne.symm (by assumption)))
          replace R49 := Kd.R_grown1 R49 rfl lS15_1 (by first | assumption | exact Kd.R_ne R49 b15 (by decide))
          replace L := E.below_own L h15_L lS15_1
          replace lw := E.below_own lw h15_lw lS15_1
          replace b15 := c15
          clear c15
          refine E.GL.done ?_
          refine E.QG.code ?_
          refine E.CG.seq ?_
          refine E.CG.list ?_
          refine E.GL.run rfl rfl rfl (E.Runs.move rfl rfl) ?_
          refine E.GL.run rfl rfl rfl (E.Runs.move rfl rfl) ?_
          refine E.GL.st rfl rfl rfl (E.ST.call rfl ent39 (E.evc rfl (E.evc rfl E.evn)) ((with_row l us A1 A3 c1 c3 _ (by omega) (Kd.C_below hr L) hc (Kd.C_below hR L)).mono ?_))
          rintro e w124 ⟨Av, cv, rfl, kv, rv_, l124⟩
          refine ⟨_, rfl, ?_⟩
          replace b3 := blk_below b3 l124
          replace b15 := blk_below b15 l124
          replace R49 := Kd.R_below R49 l124
          replace L := below_step L l124
          replace lw := below_step lw l124
          have lv := Below.refl w124.heap.size w124
          refine E.GL.run rfl rfl rfl (E.Runs.assign rfl rfl) ?_
          refine E.GL.done ?_
          refine E.QG.code ?_
          refine E.CG.seq ?_
          refine E.CG.seq ?_
          refine E.CG.list ?_
          refine E.GL.run rfl rfl rfl (E.Runs.loads (cs := [.int .i64 4, .int .i64 H.walk, .int .i64 H.early, .int .i64 H.foyer, .int .i64 H.dl, .int .i64 H.dh, .int .i64 H.cl, .int .i64 H.ch]) rfl rfl hu25 rfl info25s (blk_cells b15)) ?_
          refine E.GL.run rfl rfl rfl (E.Runs.move rfl rfl) ?_
          refine E.GL.st rfl rfl rfl (E.ST.call rfl ent19 (E.evc rfl (E.evc rfl E.evn)) ((check_ref (four H) (withT l us) Av cv _ (by rw [withT_length]; omega) (Kd.C_below rv_ lv) kv).mono ?_))
          rintro e w127 ⟨rfl, l127⟩
          refine ⟨_, rfl, ?_⟩
          replace b3 := blk_below b3 l127
          replace b15 := blk_below b15 l127
          replace R49 := Kd.R_below R49 l127
          replace L := below_step L l127
          replace lw := below_step lw l127
          replace lv := below_step lv l127
          refine E.GL.cmpn rfl rfl rfl (fun _ h => (E.Runs.neq rfl rfl rfl h)) (fun h128 => ?_) (fun h128 => ?_)
          · refine E.GL.done ?_
            refine E.QG.code ?_
            refine E.CG.cond_t rfl ?_
            refine E.CG.seq ?_
            refine E.CG.list ?_
            refine E.GL.st rfl rfl rfl (E.ST.call rfl ent14 E.evn ((works_calls _).mono ?_))
            rintro e w129 ⟨rfl, l129⟩
            refine ⟨_, rfl, ?_⟩
            replace b3 := blk_below b3 l129
            replace b15 := blk_below b15 l129
            replace R49 := Kd.R_below R49 l129
            replace L := below_step L l129
            replace lw := below_step lw l129
            replace lv := below_step lv l129
            refine E.GL.run rfl rfl rfl (E.Runs.assign rfl rfl) ?_
            refine E.GL.done ?_
            refine E.QG.code ?_
            refine E.CG.ret ?_
            refine E.QG.pass_ret ?_
            exact E.QG.result rfl rfl ⟨rfl, L⟩
          · have V4 := (checkE_valid _ _).mp h128
            refine E.GL.done ?_
            refine E.QG.code ?_
            refine E.CG.cond_f rfl ?_
            refine E.CG.skip ?_
            refine E.QG.code ?_
            refine E.CG.seq ?_
            refine E.CG.list ?_
            refine E.GL.run rfl rfl rfl (E.Runs.assign rfl rfl) ?_
            refine E.GL.done ?_
            refine E.QG.code ?_
            refine E.CG.seq ?_
            refine E.CG.seq ?_
            refine E.CG.list ?_
            refine E.GL.run rfl rfl rfl (E.Runs.assign rfl rfl) ?_
            refine E.GL.done ?_
            refine E.QG.code ?_
            refine E.CG.block ?_
            have s21_b3 := b3
            have s21_b15 := b15
            have s21_L := L
            have s21_lw := lw
            have s21_lv := lv
            refine E.CG.loop (fun (t : Nat) => [(2, .slice A3 us.length c3), (7, .int .i64 (fewE H l).1), (8, .int .i64 (fewE H l).2), (15, .pointer (some ⟨g15, 0, none⟩)), (16, .slice Av (withT l us).length cv), (17, .int .i64 (cntT us t : Int)), (18, .int .i64 t)]) (fun t w' => t ≤ 4 ∧ w'.heap[g15]? = some (.cells #[.int .i64 4, .int .i64 H.walk, .int .i64 H.early, .int .i64 H.foyer, .int .i64 H.dl, .int .i64 H.dh, .int .i64 H.cl, .int .i64 H.ch] 25 (0, 0)) ∧ Below w.heap.size w w' ∧ Below w124.heap.size w124 w') (fun t => 4 - t) 0 (E.subc rfl (E.subc rfl (E.subc rfl (E.subc rfl (E.subc rfl (E.subc rfl (E.subc rfl (E.subn)))))))) ⟨Nat.zero_le _, b15, L, lv⟩ ?_
            rintro t w21 ⟨ht, b15, L, lv⟩
            refine E.CG.seq ?_
            refine E.CG.seq ?_
            refine E.CG.list ?_
            refine E.GL.run rfl rfl rfl (E.Runs.move rfl rfl) ?_
            refine E.GL.cmp rfl rfl rfl (fun _ h => (E.Runs.lss rfl rfl rfl h)) (fun h131 => ?_) (fun h131 => ?_)
            · have ht4 : t < 4 := by omega
              have hct := cntT_le us t
              refine E.GL.done ?_
              refine E.QG.code ?_
              refine E.CG.cond_t rfl ?_
              refine E.CG.skip ?_
              refine E.QG.code ?_
              refine E.CG.seq ?_
              refine E.CG.block ?_
              refine E.CG.seq ?_
              refine E.CG.list ?_
              refine E.GL.run rfl rfl rfl (E.Runs.assign rfl rfl) ?_
              refine E.GL.done ?_
              refine E.QG.code ?_
              refine E.CG.block ?_
              have s24_b15 := b15
              have s24_L := L
              refine E.CG.loop (fun (j : Nat) => [(2, .slice A3 us.length c3), (7, .int .i64 (fewE H l).1), (8, .int .i64 (fewE H l).2), (15, .pointer (some ⟨g15, 0, none⟩)), (16, .slice Av (withT l us).length cv), (17, .int .i64 (cntT us t : Int)), (18, .int .i64 t), (19, .int .i64 j)]) (fun j w' => j ≤ us.length ∧ (∀ k, k < j → us[k]? ≠ some (t : Int)) ∧ w'.heap[g15]? = some (.cells #[.int .i64 4, .int .i64 H.walk, .int .i64 H.early, .int .i64 H.foyer, .int .i64 H.dl, .int .i64 H.dh, .int .i64 H.cl, .int .i64 H.ch] 25 (0, 0)) ∧ Below w.heap.size w w' ∧ Below w124.heap.size w124 w') (fun j => us.length - j) 0 (E.subc rfl (E.subc rfl (E.subc rfl (E.subc rfl (E.subc rfl (E.subc rfl (E.subc rfl (E.subc rfl (E.subn))))))))) ⟨Nat.zero_le _, (fun k hk => by omega), b15, L, lv⟩ ?_
              rintro j w24 ⟨hj, hj0, b15, L, lv⟩
              refine E.CG.seq ?_
              refine E.CG.seq ?_
              refine E.CG.list ?_
              refine E.GL.run rfl rfl rfl (E.Runs.move rfl rfl) ?_
              refine E.GL.run rfl rfl rfl (E.Runs.move rfl rfl) ?_
              refine E.GL.run rfl rfl rfl (E.Runs.len rfl rfl hu47) ?_
              refine E.GL.cmp rfl rfl rfl (fun _ h => (E.Runs.lss rfl rfl rfl h)) (fun h137 => ?_) (fun h137 => ?_)
              · have hjl : j < us.length := by omega
                obtain ⟨x, hx⟩ : ∃ x, us[j]? = some x := ⟨_, List.getElem?_eq_getElem hjl⟩
                obtain ⟨aa, eR, yr⟩ := int_at hR hx
                refine E.GL.done ?_
                refine E.QG.code ?_
                refine E.CG.cond_t rfl ?_
                refine E.CG.skip ?_
                refine E.QG.code ?_
                refine E.CG.seq ?_
                refine E.CG.block ?_
                refine E.CG.seq ?_
                refine E.CG.list ?_
                refine E.GL.run rfl rfl rfl (E.Runs.move rfl rfl) ?_
                refine E.GL.run rfl rfl rfl (E.Runs.move rfl rfl) ?_
                refine E.GL.run rfl rfl rfl (E.Runs.indexAddrA rfl rfl rfl hu47 (by assumption) (by assumption) (by assumption) (by first | rfl | assumption) rfl) ?_
                refine E.GL.run rfl rfl rfl (E.Runs.load rfl rfl hu3 (by first | assumption | exact E.blkc (by assumption) rfl | exact pw_cell_below L (by assumption))) ?_
                refine E.GL.run rfl rfl rfl (E.Runs.move rfl rfl) ?_
                refine E.GL.cmp rfl rfl rfl (fun _ h => (E.Runs.eql rfl rfl rfl h)) (fun h145 => ?_) (fun h145 => ?_)
                · have hcnt := cntT_in (us := us) (t := t) (by rw [← h145]; exact List.mem_of_getElem? hx)
                  refine E.GL.done ?_
                  refine E.QG.code ?_
                  refine E.CG.cond_t rfl ?_
                  refine E.CG.seq ?_
                  refine E.CG.list ?_
                  refine E.GL.run rfl rfl rfl (E.Runs.move rfl rfl) ?_
                  refine E.GL.run rfl rfl rfl (E.Runs.add rfl rfl rfl (IntWalk.i64_in _ (by omega))) ?_
                  refine E.GL.run rfl rfl rfl (E.Runs.assign rfl rfl) ?_
                  refine E.GL.done ?_
                  refine E.QG.code ?_
                  refine E.CG.exit ?_
                  refine E.QG.block_out rfl ?_
                  refine E.QG.pass_exit ?_
                  refine E.QG.pass_exit ?_
                  refine E.QG.block_here ?_
                  refine E.QG.block_normal ?_
                  refine E.QG.code ?_
                  refine E.CG.list ?_
                  refine E.GL.run rfl rfl rfl (E.Runs.move rfl rfl) ?_
                  refine E.GL.run rfl rfl rfl (E.Runs.add rfl rfl rfl (IntWalk.i64_in _ (by omega))) ?_
                  refine E.GL.run rfl rfl rfl (E.Runs.assign rfl rfl) ?_
                  refine E.GL.done ?_
                  exact E.QG.round (t + 1) (E.subc rfl (E.subc rfl (E.subc rfl (E.subc rfl (E.subc rfl (E.subc (by rw [hcnt]; rfl) (E.subc rfl E.subn))))))) ⟨by omega, b15, L, lv⟩ (by omega)
                · refine E.GL.done ?_
                  refine E.QG.code ?_
                  refine E.CG.cond_f rfl ?_
                  refine E.CG.skip ?_
                  refine E.QG.block_normal ?_
                  refine E.QG.code ?_
                  refine E.CG.list ?_
                  refine E.GL.run rfl rfl rfl (E.Runs.move rfl rfl) ?_
                  refine E.GL.run rfl rfl rfl (E.Runs.add rfl rfl rfl (IntWalk.i64_in _ (by omega))) ?_
                  refine E.GL.run rfl rfl rfl (E.Runs.assign rfl rfl) ?_
                  refine E.GL.done ?_
                  exact E.QG.round (j + 1) (E.subc rfl (E.subc rfl (E.subc rfl (E.subc rfl (E.subc rfl (E.subc rfl (E.subc rfl (E.subc rfl E.subn)))))))) ⟨by omega, next_less hj0 hx h145, b15, L, lv⟩ (by omega)
              · have hcnt := cntT_out (all_less hj0 (by omega))
                refine E.GL.done ?_
                refine E.QG.code ?_
                refine E.CG.cond_f rfl ?_
                refine E.CG.exit ?_
                refine E.QG.pass_exit ?_
                refine E.QG.pass_exit ?_
                refine E.QG.block_here ?_
                refine E.QG.block_normal ?_
                refine E.QG.code ?_
                refine E.CG.list ?_
                refine E.GL.run rfl rfl rfl (E.Runs.move rfl rfl) ?_
                refine E.GL.run rfl rfl rfl (E.Runs.add rfl rfl rfl (IntWalk.i64_in _ (by omega))) ?_
                refine E.GL.run rfl rfl rfl (E.Runs.assign rfl rfl) ?_
                refine E.GL.done ?_
                exact E.QG.round (t + 1) (E.subc rfl (E.subc rfl (E.subc rfl (E.subc rfl (E.subc rfl (E.subc (by rw [hcnt]; rfl) (E.subc rfl E.subn))))))) ⟨by omega, b15, L, lv⟩ (by omega)
            · obtain rfl : t = 4 := by omega
              refine E.GL.done ?_
              refine E.QG.code ?_
              refine E.CG.cond_f rfl ?_
              refine E.CG.exit ?_
              refine E.QG.pass_exit ?_
              refine E.QG.pass_exit ?_
              refine E.QG.block_here ?_
              refine E.QG.code ?_
              refine E.CG.seq ?_
              refine E.CG.list ?_
              refine E.GL.run rfl rfl rfl (E.Runs.loads (cs := [.int .i64 4, .int .i64 H.walk, .int .i64 H.early, .int .i64 H.foyer, .int .i64 H.dl, .int .i64 H.dh, .int .i64 H.cl, .int .i64 H.ch]) rfl rfl hu25 rfl info25s (blk_cells b15)) ?_
              refine E.GL.run rfl rfl rfl (E.Runs.move rfl rfl) ?_
              refine E.GL.st rfl rfl rfl (E.ST.call rfl ent23 (E.evc rfl (E.evc rfl E.evn)) ((late_own (four H) (withT l us) Av cv _ (by rw [withT_length]; omega) (Kd.C_below rv_ lv) kv).mono ?_))
              rintro e w151 ⟨rfl, l151⟩
              refine ⟨_, rfl, ?_⟩
              replace b15 := blk_below b15 l151
              replace L := below_step L l151
              refine E.GL.run rfl rfl rfl (E.Runs.move rfl rfl) ?_
              refine E.GL.run rfl rfl rfl (E.Runs.extract rfl rfl rfl) ?_
              refine E.GL.run rfl rfl rfl (E.Runs.extract rfl rfl rfl) ?_
              refine E.GL.run rfl rfl rfl (E.Runs.extract rfl rfl rfl) ?_
              refine E.GL.run rfl rfl rfl (E.Runs.assign rfl rfl) ?_
              refine E.GL.run rfl rfl rfl (E.Runs.assign rfl rfl) ?_
              refine E.GL.run rfl rfl rfl (E.Runs.assign rfl rfl) ?_
              refine E.GL.done ?_
              refine E.QG.code ?_
              refine E.CG.seq ?_
              refine E.CG.list ?_
              refine E.GL.run rfl rfl rfl (E.Runs.move rfl rfl) ?_
              refine E.GL.run rfl rfl rfl (E.Runs.eql rfl rfl rfl (decide_eq_true (lateE_ok V4))) ?_
              refine E.GL.run rfl rfl rfl (E.Runs.move rfl rfl) ?_
              refine E.GL.run rfl rfl rfl (E.Runs.move rfl rfl) ?_
              refine E.GL.cmp rfl rfl rfl (fun _ h => (E.Runs.geq rfl rfl rfl h)) (fun h159 => ?_) (fun h159 => ?_)
              · refine E.GL.run rfl rfl rfl (E.Runs.move rfl rfl) ?_
                refine E.GL.skip rfl rfl rfl ?_
                refine E.GL.skip rfl rfl rfl ?_
                refine E.GL.skip rfl rfl rfl ?_
                refine E.GL.skip rfl rfl rfl ?_
                refine E.GL.skip rfl rfl rfl ?_
                refine E.GL.skip rfl rfl rfl ?_
                refine E.GL.skip rfl rfl rfl ?_
                refine E.GL.skip rfl rfl rfl ?_
                refine E.GL.run rfl rfl rfl (E.Runs.pick_t rfl rfl rfl) ?_
                refine E.GL.run rfl rfl rfl (E.Runs.pick_t rfl rfl rfl) ?_
                refine E.GL.run rfl rfl rfl (E.Runs.move rfl rfl) ?_
                refine E.GL.st rfl rfl rfl (E.ST.call rfl ent14 E.evn ((works_calls _).mono ?_))
                rintro e w172 ⟨rfl, l172⟩
                refine ⟨_, rfl, ?_⟩
                replace b15 := blk_below b15 l172
                replace L := below_step L l172
                refine E.GL.run rfl rfl rfl (E.Runs.pick_t rfl rfl rfl) ?_
                refine E.GL.run rfl rfl rfl (E.Runs.assign rfl rfl) ?_
                refine E.GL.done ?_
                refine E.QG.code ?_
                refine E.CG.ret ?_
                exact E.QG.result rfl rfl ⟨rfl, L⟩
              · have hcan := canX_of hlu V4 h159
                have hc4 := cntT_le us 4
                obtain ⟨hf0, hf1⟩ := few_most h25 hcan (by unfold mx; split <;> omega) (by unfold mx; split <;> omega)
                refine E.GL.run rfl rfl rfl (E.Runs.move rfl rfl) ?_
                refine E.GL.run rfl rfl rfl (E.Runs.move rfl rfl) ?_
                refine E.GL.run rfl rfl rfl (E.Runs.eql rfl rfl rfl (decide_eq_true hf0)) ?_
                refine E.GL.run rfl rfl rfl (E.Runs.move rfl rfl) ?_
                refine E.GL.run rfl rfl rfl (E.Runs.move rfl rfl) ?_
                refine E.GL.run rfl rfl rfl (E.Runs.max rfl rfl rfl rfl) ?_
                refine E.GL.run rfl rfl rfl (E.Runs.move rfl rfl) ?_
                refine E.GL.run rfl rfl rfl (E.Runs.geq rfl rfl rfl (decide_eq_true hf1)) ?_
                refine E.GL.run rfl rfl rfl (E.Runs.pick_t rfl rfl rfl) ?_
                refine E.GL.run rfl rfl rfl (E.Runs.pick_f rfl rfl rfl) ?_
                refine E.GL.run rfl rfl rfl (E.Runs.pick_t rfl rfl rfl) ?_
                refine E.GL.run rfl rfl rfl (E.Runs.move rfl rfl) ?_
                refine E.GL.st rfl rfl rfl (E.ST.call rfl ent14 E.evn ((works_calls _).mono ?_))
                rintro e w172 ⟨rfl, l172⟩
                refine ⟨_, rfl, ?_⟩
                replace b15 := blk_below b15 l172
                replace L := below_step L l172
                refine E.GL.run rfl rfl rfl (E.Runs.pick_t rfl rfl rfl) ?_
                refine E.GL.run rfl rfl rfl (E.Runs.assign rfl rfl) ?_
                refine E.GL.done ?_
                refine E.QG.code ?_
                refine E.CG.ret ?_
                exact E.QG.result rfl rfl ⟨rfl, L⟩
        · refine E.GL.run rfl rfl rfl (E.Runs.neq rfl rfl rfl (E.ne_f q1)) ?_
          refine E.GL.run rfl rfl rfl (E.Runs.move rfl rfl) ?_
          refine E.GL.skip rfl rfl rfl ?_
          refine E.GL.skip rfl rfl rfl ?_
          refine E.GL.run rfl rfl rfl (E.Runs.pick_f rfl rfl rfl) ?_
          refine E.GL.run rfl rfl rfl (E.Runs.move rfl rfl) ?_
          refine E.GL.run rfl rfl rfl (E.Runs.move rfl rfl) ?_
          refine E.GL.run rfl rfl rfl (E.Runs.neq rfl rfl rfl (E.ne_t (by omega))) ?_
          refine E.GL.run rfl rfl rfl (E.Runs.move rfl rfl) ?_
          refine E.GL.run rfl rfl rfl (E.Runs.move rfl rfl) ?_
          refine E.GL.run rfl rfl rfl (E.Runs.neq rfl rfl rfl (E.ne_f q5)) ?_
          refine E.GL.run rfl rfl rfl (E.Runs.pick_t rfl rfl rfl) ?_
          refine E.GL.run rfl rfl rfl (E.Runs.pick_f rfl rfl rfl) ?_
          refine E.GL.run rfl rfl rfl (E.Runs.move rfl rfl) ?_
          refine E.GL.run rfl rfl rfl (E.Runs.move rfl rfl) ?_
          refine E.GL.run rfl rfl rfl (E.Runs.eql rfl rfl rfl (decide_eq_false (by omega))) ?_
          refine E.GL.run rfl rfl rfl (E.Runs.move rfl rfl) ?_
          refine E.GL.run rfl rfl rfl (E.Runs.eql rfl rfl rfl (decide_eq_true q1)) ?_
          refine E.GL.run rfl rfl rfl (E.Runs.move rfl rfl) ?_
          refine E.GL.run rfl rfl rfl (E.Runs.move rfl rfl) ?_
          refine E.GL.run rfl rfl rfl (E.Runs.fieldAddr rfl rfl hu25 rfl (by assumption) rfl) ?_
          refine E.GL.run rfl rfl rfl (E.Runs.load rfl rfl hu3 (by first | assumption | exact E.blkc (by assumption) rfl | exact pw_cell_below L (by assumption))) ?_
          refine E.GL.run rfl rfl rfl (E.Runs.leq rfl rfl rfl (decide_eq_false q4)) ?_
          refine E.GL.run rfl rfl rfl (E.Runs.pick_t rfl rfl rfl) ?_
          refine E.GL.run rfl rfl rfl (E.Runs.neqv rfl rfl rfl rfl (fun _ _ _ => rfl) (bool_equal _ _) rfl) ?_
          refine E.GL.run rfl rfl rfl (E.Runs.pick_f rfl rfl rfl) ?_
          refine E.GL.run rfl rfl rfl (E.Runs.move rfl rfl) ?_
          refine E.GL.run rfl rfl rfl (E.Runs.move rfl rfl) ?_
          refine E.GL.run rfl rfl rfl (E.Runs.eql rfl rfl rfl (decide_eq_true q1)) ?_
          refine E.GL.run rfl rfl rfl (E.Runs.move rfl rfl) ?_
          refine E.GL.run rfl rfl rfl (E.Runs.move rfl rfl) ?_
          refine E.GL.run rfl rfl rfl (E.Runs.lss rfl rfl rfl (decide_eq_false (by omega))) ?_
          refine E.GL.run rfl rfl rfl (E.Runs.move rfl rfl) ?_
          refine E.GL.run rfl rfl rfl (E.Runs.move rfl rfl) ?_
          refine E.GL.run rfl rfl rfl (E.Runs.gtr rfl rfl rfl (decide_eq_false (by omega))) ?_
          refine E.GL.run rfl rfl rfl (E.Runs.pick_f rfl rfl rfl) ?_
          refine E.GL.run rfl rfl rfl (E.Runs.pick_t rfl rfl rfl) ?_
          refine E.GL.run rfl rfl rfl (E.Runs.pick_f rfl rfl rfl) ?_
          refine E.GL.done ?_
          refine E.QG.code ?_
          refine E.CG.cond_f rfl ?_
          refine E.CG.skip ?_
          refine E.QG.code ?_
          refine E.CG.seq ?_
          refine E.CG.seq ?_
          refine E.CG.list ?_
          refine E.GL.run rfl rfl rfl (E.Runs.move rfl rfl) ?_
          refine E.GL.run rfl rfl rfl (E.Runs.eql rfl rfl rfl (decide_eq_false (by omega))) ?_
          refine E.GL.done ?_
          refine E.QG.code ?_
          refine E.CG.cond_f rfl ?_
          refine E.CG.skip ?_
          refine E.QG.code ?_
          refine E.CG.seq ?_
          refine E.CG.list ?_
          refine E.GL.run rfl rfl rfl (E.Runs.loads (cs := [.int .i64 H.teams, .int .i64 H.walk, .int .i64 H.early, .int .i64 H.foyer, .int .i64 H.dl, .int .i64 H.dh, .int .i64 H.cl, .int .i64 H.ch]) rfl rfl hu25 rfl info25s (blk_cells b3)) ?_
          refine E.GL.st rfl rfl rfl (E.ST.alloc rfl info25z fun g15 w15 e15 b15 l15 => ?_)
          have h15_L : w.heap.size ≤ g15 := by rw [e15]; exact L.size
          have n15_b3 : g3 ≠ g15 := by have := blk_lt b3; omega
          have n15_R49 : some g15 ≠ (Value.slice A49 ts.length c49).ownBlock := fun h => by have := Kd.R_lt R49 _ h.symm; omega
          replace b3 := blk_below b3 l15
          replace R49 := Kd.R_below R49 l15
          replace L := below_step L l15
          refine E.GL.store_whole rfl rfl rfl rfl rfl b15 rfl info25s (eight_one _ _ _ _ _ _ _ _) fun wS14_2 c15 lS14_2 => ?_
          replace b3 := blk_grown b3 lS14_2 (E.nes (by first | assumption | exact Ne.symm (by assumption)))
          replace R49 := Kd.R_grown1 R49 rfl lS14_2 (by first | assumption | exact Kd.R_ne R49 b15 (by decide))
          replace L := E.below_own L h15_L lS14_2
          replace b15 := c15
          clear c15
          refine E.GL.done ?_
          refine E.QG.code ?_
          refine E.CG.seq ?_
          refine E.CG.list ?_
          refine E.GL.run rfl rfl rfl (E.Runs.fieldAddr rfl rfl hu25 rfl (by assumption) rfl) ?_
          refine E.GL.sn rfl rfl (E.ST.store rfl (by assumption) (by assumption) rfl rfl b15 rfl (show _ = #[.int .i64 4, .int .i64 H.walk, .int .i64 H.early, .int .i64 H.foyer, .int .i64 H.dl, .int .i64 H.dh, .int .i64 H.cl, .int .i64 H.ch] from rfl) fun wS15_1 c15 lS15_1 => ?_)
          replace b3 := blk_grown b3 lS15_1 (E.nes (by first | assumption | exact Ne.symm (by assumption)))
          replace R49 := Kd.R_grown1 R49 rfl lS15_1 (by first | assumption | exact Kd.R_ne R49 b15 (by decide))
          replace L := E.below_own L h15_L lS15_1
          replace b15 := c15
          clear c15
          refine E.GL.done ?_
          refine E.QG.code ?_
          refine E.CG.seq ?_
          refine E.CG.list ?_
          refine E.GL.run rfl rfl rfl (E.Runs.move rfl rfl) ?_
          refine E.GL.run rfl rfl rfl (E.Runs.move rfl rfl) ?_
          refine E.GL.st rfl rfl rfl (E.ST.call rfl ent39 (E.evc rfl (E.evc rfl E.evn)) ((with_row l us A1 A3 c1 c3 _ (by omega) (Kd.C_below hr L) hc (Kd.C_below hR L)).mono ?_))
          rintro e w124 ⟨Av, cv, rfl, kv, rv_, l124⟩
          refine ⟨_, rfl, ?_⟩
          replace b3 := blk_below b3 l124
          replace b15 := blk_below b15 l124
          replace R49 := Kd.R_below R49 l124
          replace L := below_step L l124
          have lv := Below.refl w124.heap.size w124
          refine E.GL.run rfl rfl rfl (E.Runs.assign rfl rfl) ?_
          refine E.GL.done ?_
          refine E.QG.code ?_
          refine E.CG.seq ?_
          refine E.CG.seq ?_
          refine E.CG.list ?_
          refine E.GL.run rfl rfl rfl (E.Runs.loads (cs := [.int .i64 4, .int .i64 H.walk, .int .i64 H.early, .int .i64 H.foyer, .int .i64 H.dl, .int .i64 H.dh, .int .i64 H.cl, .int .i64 H.ch]) rfl rfl hu25 rfl info25s (blk_cells b15)) ?_
          refine E.GL.run rfl rfl rfl (E.Runs.move rfl rfl) ?_
          refine E.GL.st rfl rfl rfl (E.ST.call rfl ent19 (E.evc rfl (E.evc rfl E.evn)) ((check_ref (four H) (withT l us) Av cv _ (by rw [withT_length]; omega) (Kd.C_below rv_ lv) kv).mono ?_))
          rintro e w127 ⟨rfl, l127⟩
          refine ⟨_, rfl, ?_⟩
          replace b3 := blk_below b3 l127
          replace b15 := blk_below b15 l127
          replace R49 := Kd.R_below R49 l127
          replace L := below_step L l127
          replace lv := below_step lv l127
          refine E.GL.cmpn rfl rfl rfl (fun _ h => (E.Runs.neq rfl rfl rfl h)) (fun h128 => ?_) (fun h128 => ?_)
          · refine E.GL.done ?_
            refine E.QG.code ?_
            refine E.CG.cond_t rfl ?_
            refine E.CG.seq ?_
            refine E.CG.list ?_
            refine E.GL.st rfl rfl rfl (E.ST.call rfl ent14 E.evn ((works_calls _).mono ?_))
            rintro e w129 ⟨rfl, l129⟩
            refine ⟨_, rfl, ?_⟩
            replace b3 := blk_below b3 l129
            replace b15 := blk_below b15 l129
            replace R49 := Kd.R_below R49 l129
            replace L := below_step L l129
            replace lv := below_step lv l129
            refine E.GL.run rfl rfl rfl (E.Runs.assign rfl rfl) ?_
            refine E.GL.done ?_
            refine E.QG.code ?_
            refine E.CG.ret ?_
            refine E.QG.pass_ret ?_
            exact E.QG.result rfl rfl ⟨rfl, L⟩
          · have V4 := (checkE_valid _ _).mp h128
            refine E.GL.done ?_
            refine E.QG.code ?_
            refine E.CG.cond_f rfl ?_
            refine E.CG.skip ?_
            refine E.QG.code ?_
            refine E.CG.seq ?_
            refine E.CG.list ?_
            refine E.GL.run rfl rfl rfl (E.Runs.assign rfl rfl) ?_
            refine E.GL.done ?_
            refine E.QG.code ?_
            refine E.CG.seq ?_
            refine E.CG.seq ?_
            refine E.CG.list ?_
            refine E.GL.run rfl rfl rfl (E.Runs.assign rfl rfl) ?_
            refine E.GL.done ?_
            refine E.QG.code ?_
            refine E.CG.block ?_
            have s21_b3 := b3
            have s21_b15 := b15
            have s21_L := L
            have s21_lv := lv
            refine E.CG.loop (fun (t : Nat) => [(2, .slice A3 us.length c3), (7, .int .i64 (fewE H l).1), (8, .int .i64 (fewE H l).2), (15, .pointer (some ⟨g15, 0, none⟩)), (16, .slice Av (withT l us).length cv), (17, .int .i64 (cntT us t : Int)), (18, .int .i64 t)]) (fun t w' => t ≤ 4 ∧ w'.heap[g15]? = some (.cells #[.int .i64 4, .int .i64 H.walk, .int .i64 H.early, .int .i64 H.foyer, .int .i64 H.dl, .int .i64 H.dh, .int .i64 H.cl, .int .i64 H.ch] 25 (0, 0)) ∧ Below w.heap.size w w' ∧ Below w124.heap.size w124 w') (fun t => 4 - t) 0 (E.subc rfl (E.subc rfl (E.subc rfl (E.subc rfl (E.subc rfl (E.subc rfl (E.subc rfl (E.subn)))))))) ⟨Nat.zero_le _, b15, L, lv⟩ ?_
            rintro t w21 ⟨ht, b15, L, lv⟩
            refine E.CG.seq ?_
            refine E.CG.seq ?_
            refine E.CG.list ?_
            refine E.GL.run rfl rfl rfl (E.Runs.move rfl rfl) ?_
            refine E.GL.cmp rfl rfl rfl (fun _ h => (E.Runs.lss rfl rfl rfl h)) (fun h131 => ?_) (fun h131 => ?_)
            · have ht4 : t < 4 := by omega
              have hct := cntT_le us t
              refine E.GL.done ?_
              refine E.QG.code ?_
              refine E.CG.cond_t rfl ?_
              refine E.CG.skip ?_
              refine E.QG.code ?_
              refine E.CG.seq ?_
              refine E.CG.block ?_
              refine E.CG.seq ?_
              refine E.CG.list ?_
              refine E.GL.run rfl rfl rfl (E.Runs.assign rfl rfl) ?_
              refine E.GL.done ?_
              refine E.QG.code ?_
              refine E.CG.block ?_
              have s24_b15 := b15
              have s24_L := L
              refine E.CG.loop (fun (j : Nat) => [(2, .slice A3 us.length c3), (7, .int .i64 (fewE H l).1), (8, .int .i64 (fewE H l).2), (15, .pointer (some ⟨g15, 0, none⟩)), (16, .slice Av (withT l us).length cv), (17, .int .i64 (cntT us t : Int)), (18, .int .i64 t), (19, .int .i64 j)]) (fun j w' => j ≤ us.length ∧ (∀ k, k < j → us[k]? ≠ some (t : Int)) ∧ w'.heap[g15]? = some (.cells #[.int .i64 4, .int .i64 H.walk, .int .i64 H.early, .int .i64 H.foyer, .int .i64 H.dl, .int .i64 H.dh, .int .i64 H.cl, .int .i64 H.ch] 25 (0, 0)) ∧ Below w.heap.size w w' ∧ Below w124.heap.size w124 w') (fun j => us.length - j) 0 (E.subc rfl (E.subc rfl (E.subc rfl (E.subc rfl (E.subc rfl (E.subc rfl (E.subc rfl (E.subc rfl (E.subn))))))))) ⟨Nat.zero_le _, (fun k hk => by omega), b15, L, lv⟩ ?_
              rintro j w24 ⟨hj, hj0, b15, L, lv⟩
              refine E.CG.seq ?_
              refine E.CG.seq ?_
              refine E.CG.list ?_
              refine E.GL.run rfl rfl rfl (E.Runs.move rfl rfl) ?_
              refine E.GL.run rfl rfl rfl (E.Runs.move rfl rfl) ?_
              refine E.GL.run rfl rfl rfl (E.Runs.len rfl rfl hu47) ?_
              refine E.GL.cmp rfl rfl rfl (fun _ h => (E.Runs.lss rfl rfl rfl h)) (fun h137 => ?_) (fun h137 => ?_)
              · have hjl : j < us.length := by omega
                obtain ⟨x, hx⟩ : ∃ x, us[j]? = some x := ⟨_, List.getElem?_eq_getElem hjl⟩
                obtain ⟨aa, eR, yr⟩ := int_at hR hx
                refine E.GL.done ?_
                refine E.QG.code ?_
                refine E.CG.cond_t rfl ?_
                refine E.CG.skip ?_
                refine E.QG.code ?_
                refine E.CG.seq ?_
                refine E.CG.block ?_
                refine E.CG.seq ?_
                refine E.CG.list ?_
                refine E.GL.run rfl rfl rfl (E.Runs.move rfl rfl) ?_
                refine E.GL.run rfl rfl rfl (E.Runs.move rfl rfl) ?_
                refine E.GL.run rfl rfl rfl (E.Runs.indexAddrA rfl rfl rfl hu47 (by assumption) (by assumption) (by assumption) (by first | rfl | assumption) rfl) ?_
                refine E.GL.run rfl rfl rfl (E.Runs.load rfl rfl hu3 (by first | assumption | exact E.blkc (by assumption) rfl | exact pw_cell_below L (by assumption))) ?_
                refine E.GL.run rfl rfl rfl (E.Runs.move rfl rfl) ?_
                refine E.GL.cmp rfl rfl rfl (fun _ h => (E.Runs.eql rfl rfl rfl h)) (fun h145 => ?_) (fun h145 => ?_)
                · have hcnt := cntT_in (us := us) (t := t) (by rw [← h145]; exact List.mem_of_getElem? hx)
                  refine E.GL.done ?_
                  refine E.QG.code ?_
                  refine E.CG.cond_t rfl ?_
                  refine E.CG.seq ?_
                  refine E.CG.list ?_
                  refine E.GL.run rfl rfl rfl (E.Runs.move rfl rfl) ?_
                  refine E.GL.run rfl rfl rfl (E.Runs.add rfl rfl rfl (IntWalk.i64_in _ (by omega))) ?_
                  refine E.GL.run rfl rfl rfl (E.Runs.assign rfl rfl) ?_
                  refine E.GL.done ?_
                  refine E.QG.code ?_
                  refine E.CG.exit ?_
                  refine E.QG.block_out rfl ?_
                  refine E.QG.pass_exit ?_
                  refine E.QG.pass_exit ?_
                  refine E.QG.block_here ?_
                  refine E.QG.block_normal ?_
                  refine E.QG.code ?_
                  refine E.CG.list ?_
                  refine E.GL.run rfl rfl rfl (E.Runs.move rfl rfl) ?_
                  refine E.GL.run rfl rfl rfl (E.Runs.add rfl rfl rfl (IntWalk.i64_in _ (by omega))) ?_
                  refine E.GL.run rfl rfl rfl (E.Runs.assign rfl rfl) ?_
                  refine E.GL.done ?_
                  exact E.QG.round (t + 1) (E.subc rfl (E.subc rfl (E.subc rfl (E.subc rfl (E.subc rfl (E.subc (by rw [hcnt]; rfl) (E.subc rfl E.subn))))))) ⟨by omega, b15, L, lv⟩ (by omega)
                · refine E.GL.done ?_
                  refine E.QG.code ?_
                  refine E.CG.cond_f rfl ?_
                  refine E.CG.skip ?_
                  refine E.QG.block_normal ?_
                  refine E.QG.code ?_
                  refine E.CG.list ?_
                  refine E.GL.run rfl rfl rfl (E.Runs.move rfl rfl) ?_
                  refine E.GL.run rfl rfl rfl (E.Runs.add rfl rfl rfl (IntWalk.i64_in _ (by omega))) ?_
                  refine E.GL.run rfl rfl rfl (E.Runs.assign rfl rfl) ?_
                  refine E.GL.done ?_
                  exact E.QG.round (j + 1) (E.subc rfl (E.subc rfl (E.subc rfl (E.subc rfl (E.subc rfl (E.subc rfl (E.subc rfl (E.subc rfl E.subn)))))))) ⟨by omega, next_less hj0 hx h145, b15, L, lv⟩ (by omega)
              · have hcnt := cntT_out (all_less hj0 (by omega))
                refine E.GL.done ?_
                refine E.QG.code ?_
                refine E.CG.cond_f rfl ?_
                refine E.CG.exit ?_
                refine E.QG.pass_exit ?_
                refine E.QG.pass_exit ?_
                refine E.QG.block_here ?_
                refine E.QG.block_normal ?_
                refine E.QG.code ?_
                refine E.CG.list ?_
                refine E.GL.run rfl rfl rfl (E.Runs.move rfl rfl) ?_
                refine E.GL.run rfl rfl rfl (E.Runs.add rfl rfl rfl (IntWalk.i64_in _ (by omega))) ?_
                refine E.GL.run rfl rfl rfl (E.Runs.assign rfl rfl) ?_
                refine E.GL.done ?_
                exact E.QG.round (t + 1) (E.subc rfl (E.subc rfl (E.subc rfl (E.subc rfl (E.subc rfl (E.subc (by rw [hcnt]; rfl) (E.subc rfl E.subn))))))) ⟨by omega, b15, L, lv⟩ (by omega)
            · obtain rfl : t = 4 := by omega
              refine E.GL.done ?_
              refine E.QG.code ?_
              refine E.CG.cond_f rfl ?_
              refine E.CG.exit ?_
              refine E.QG.pass_exit ?_
              refine E.QG.pass_exit ?_
              refine E.QG.block_here ?_
              refine E.QG.code ?_
              refine E.CG.seq ?_
              refine E.CG.list ?_
              refine E.GL.run rfl rfl rfl (E.Runs.loads (cs := [.int .i64 4, .int .i64 H.walk, .int .i64 H.early, .int .i64 H.foyer, .int .i64 H.dl, .int .i64 H.dh, .int .i64 H.cl, .int .i64 H.ch]) rfl rfl hu25 rfl info25s (blk_cells b15)) ?_
              refine E.GL.run rfl rfl rfl (E.Runs.move rfl rfl) ?_
              refine E.GL.st rfl rfl rfl (E.ST.call rfl ent23 (E.evc rfl (E.evc rfl E.evn)) ((late_own (four H) (withT l us) Av cv _ (by rw [withT_length]; omega) (Kd.C_below rv_ lv) kv).mono ?_))
              rintro e w151 ⟨rfl, l151⟩
              refine ⟨_, rfl, ?_⟩
              replace b15 := blk_below b15 l151
              replace L := below_step L l151
              refine E.GL.run rfl rfl rfl (E.Runs.move rfl rfl) ?_
              refine E.GL.run rfl rfl rfl (E.Runs.extract rfl rfl rfl) ?_
              refine E.GL.run rfl rfl rfl (E.Runs.extract rfl rfl rfl) ?_
              refine E.GL.run rfl rfl rfl (E.Runs.extract rfl rfl rfl) ?_
              refine E.GL.run rfl rfl rfl (E.Runs.assign rfl rfl) ?_
              refine E.GL.run rfl rfl rfl (E.Runs.assign rfl rfl) ?_
              refine E.GL.run rfl rfl rfl (E.Runs.assign rfl rfl) ?_
              refine E.GL.done ?_
              refine E.QG.code ?_
              refine E.CG.seq ?_
              refine E.CG.list ?_
              refine E.GL.run rfl rfl rfl (E.Runs.move rfl rfl) ?_
              refine E.GL.run rfl rfl rfl (E.Runs.eql rfl rfl rfl (decide_eq_true (lateE_ok V4))) ?_
              refine E.GL.run rfl rfl rfl (E.Runs.move rfl rfl) ?_
              refine E.GL.run rfl rfl rfl (E.Runs.move rfl rfl) ?_
              refine E.GL.cmp rfl rfl rfl (fun _ h => (E.Runs.geq rfl rfl rfl h)) (fun h159 => ?_) (fun h159 => ?_)
              · refine E.GL.run rfl rfl rfl (E.Runs.move rfl rfl) ?_
                refine E.GL.skip rfl rfl rfl ?_
                refine E.GL.skip rfl rfl rfl ?_
                refine E.GL.skip rfl rfl rfl ?_
                refine E.GL.skip rfl rfl rfl ?_
                refine E.GL.skip rfl rfl rfl ?_
                refine E.GL.skip rfl rfl rfl ?_
                refine E.GL.skip rfl rfl rfl ?_
                refine E.GL.skip rfl rfl rfl ?_
                refine E.GL.run rfl rfl rfl (E.Runs.pick_t rfl rfl rfl) ?_
                refine E.GL.run rfl rfl rfl (E.Runs.pick_t rfl rfl rfl) ?_
                refine E.GL.run rfl rfl rfl (E.Runs.move rfl rfl) ?_
                refine E.GL.st rfl rfl rfl (E.ST.call rfl ent14 E.evn ((works_calls _).mono ?_))
                rintro e w172 ⟨rfl, l172⟩
                refine ⟨_, rfl, ?_⟩
                replace b15 := blk_below b15 l172
                replace L := below_step L l172
                refine E.GL.run rfl rfl rfl (E.Runs.pick_t rfl rfl rfl) ?_
                refine E.GL.run rfl rfl rfl (E.Runs.assign rfl rfl) ?_
                refine E.GL.done ?_
                refine E.QG.code ?_
                refine E.CG.ret ?_
                exact E.QG.result rfl rfl ⟨rfl, L⟩
              · have hcan := canX_of hlu V4 h159
                have hc4 := cntT_le us 4
                obtain ⟨hf0, hf1⟩ := few_most h25 hcan (by unfold mx; split <;> omega) (by unfold mx; split <;> omega)
                refine E.GL.run rfl rfl rfl (E.Runs.move rfl rfl) ?_
                refine E.GL.run rfl rfl rfl (E.Runs.move rfl rfl) ?_
                refine E.GL.run rfl rfl rfl (E.Runs.eql rfl rfl rfl (decide_eq_true hf0)) ?_
                refine E.GL.run rfl rfl rfl (E.Runs.move rfl rfl) ?_
                refine E.GL.run rfl rfl rfl (E.Runs.move rfl rfl) ?_
                refine E.GL.run rfl rfl rfl (E.Runs.max rfl rfl rfl rfl) ?_
                refine E.GL.run rfl rfl rfl (E.Runs.move rfl rfl) ?_
                refine E.GL.run rfl rfl rfl (E.Runs.geq rfl rfl rfl (decide_eq_true hf1)) ?_
                refine E.GL.run rfl rfl rfl (E.Runs.pick_t rfl rfl rfl) ?_
                refine E.GL.run rfl rfl rfl (E.Runs.pick_f rfl rfl rfl) ?_
                refine E.GL.run rfl rfl rfl (E.Runs.pick_t rfl rfl rfl) ?_
                refine E.GL.run rfl rfl rfl (E.Runs.move rfl rfl) ?_
                refine E.GL.st rfl rfl rfl (E.ST.call rfl ent14 E.evn ((works_calls _).mono ?_))
                rintro e w172 ⟨rfl, l172⟩
                refine ⟨_, rfl, ?_⟩
                replace b15 := blk_below b15 l172
                replace L := below_step L l172
                refine E.GL.run rfl rfl rfl (E.Runs.pick_t rfl rfl rfl) ?_
                refine E.GL.run rfl rfl rfl (E.Runs.assign rfl rfl) ?_
                refine E.GL.done ?_
                refine E.QG.code ?_
                refine E.CG.ret ?_
                exact E.QG.result rfl rfl ⟨rfl, L⟩
        · refine E.GL.run rfl rfl rfl (E.Runs.neq rfl rfl rfl (E.ne_t (by omega))) ?_
          refine E.GL.run rfl rfl rfl (E.Runs.move rfl rfl) ?_
          refine E.GL.run rfl rfl rfl (E.Runs.move rfl rfl) ?_
          refine E.GL.run rfl rfl rfl (E.Runs.neq rfl rfl rfl (E.ne_f q1)) ?_
          refine E.GL.run rfl rfl rfl (E.Runs.pick_t rfl rfl rfl) ?_
          refine E.GL.run rfl rfl rfl (E.Runs.move rfl rfl) ?_
          refine E.GL.run rfl rfl rfl (E.Runs.move rfl rfl) ?_
          refine E.GL.run rfl rfl rfl (E.Runs.neq rfl rfl rfl (E.ne_t (by omega))) ?_
          refine E.GL.run rfl rfl rfl (E.Runs.move rfl rfl) ?_
          refine E.GL.run rfl rfl rfl (E.Runs.move rfl rfl) ?_
          refine E.GL.run rfl rfl rfl (E.Runs.neq rfl rfl rfl (E.ne_f q5)) ?_
          refine E.GL.run rfl rfl rfl (E.Runs.pick_t rfl rfl rfl) ?_
          refine E.GL.run rfl rfl rfl (E.Runs.pick_f rfl rfl rfl) ?_
          refine E.GL.run rfl rfl rfl (E.Runs.move rfl rfl) ?_
          refine E.GL.run rfl rfl rfl (E.Runs.move rfl rfl) ?_
          refine E.GL.run rfl rfl rfl (E.Runs.eql rfl rfl rfl (decide_eq_false (by omega))) ?_
          refine E.GL.run rfl rfl rfl (E.Runs.move rfl rfl) ?_
          refine E.GL.run rfl rfl rfl (E.Runs.eql rfl rfl rfl (decide_eq_false (by omega))) ?_
          refine E.GL.run rfl rfl rfl (E.Runs.move rfl rfl) ?_
          refine E.GL.skip rfl rfl rfl ?_
          refine E.GL.skip rfl rfl rfl ?_
          refine E.GL.skip rfl rfl rfl ?_
          refine E.GL.skip rfl rfl rfl ?_
          refine E.GL.run rfl rfl rfl (E.Runs.pick_f rfl rfl rfl) ?_
          refine E.GL.run rfl rfl rfl (E.Runs.neqv rfl rfl rfl rfl (fun _ _ _ => rfl) (bool_equal _ _) rfl) ?_
          refine E.GL.run rfl rfl rfl (E.Runs.pick_f rfl rfl rfl) ?_
          refine E.GL.run rfl rfl rfl (E.Runs.move rfl rfl) ?_
          refine E.GL.run rfl rfl rfl (E.Runs.move rfl rfl) ?_
          refine E.GL.run rfl rfl rfl (E.Runs.eql rfl rfl rfl (decide_eq_false (by omega))) ?_
          refine E.GL.run rfl rfl rfl (E.Runs.move rfl rfl) ?_
          refine E.GL.skip rfl rfl rfl ?_
          refine E.GL.skip rfl rfl rfl ?_
          refine E.GL.skip rfl rfl rfl ?_
          refine E.GL.skip rfl rfl rfl ?_
          refine E.GL.skip rfl rfl rfl ?_
          refine E.GL.skip rfl rfl rfl ?_
          refine E.GL.run rfl rfl rfl (E.Runs.pick_f rfl rfl rfl) ?_
          refine E.GL.run rfl rfl rfl (E.Runs.pick_f rfl rfl rfl) ?_
          refine E.GL.done ?_
          refine E.QG.code ?_
          refine E.CG.cond_f rfl ?_
          refine E.CG.skip ?_
          refine E.QG.code ?_
          refine E.CG.seq ?_
          refine E.CG.seq ?_
          refine E.CG.list ?_
          refine E.GL.run rfl rfl rfl (E.Runs.move rfl rfl) ?_
          refine E.GL.run rfl rfl rfl (E.Runs.eql rfl rfl rfl (decide_eq_false (by omega))) ?_
          refine E.GL.done ?_
          refine E.QG.code ?_
          refine E.CG.cond_f rfl ?_
          refine E.CG.skip ?_
          refine E.QG.code ?_
          refine E.CG.seq ?_
          refine E.CG.list ?_
          refine E.GL.run rfl rfl rfl (E.Runs.loads (cs := [.int .i64 H.teams, .int .i64 H.walk, .int .i64 H.early, .int .i64 H.foyer, .int .i64 H.dl, .int .i64 H.dh, .int .i64 H.cl, .int .i64 H.ch]) rfl rfl hu25 rfl info25s (blk_cells b3)) ?_
          refine E.GL.st rfl rfl rfl (E.ST.alloc rfl info25z fun g15 w15 e15 b15 l15 => ?_)
          have h15_L : w.heap.size ≤ g15 := by rw [e15]; exact L.size
          have n15_b3 : g3 ≠ g15 := by have := blk_lt b3; omega
          have n15_R49 : some g15 ≠ (Value.slice A49 ts.length c49).ownBlock := fun h => by have := Kd.R_lt R49 _ h.symm; omega
          replace b3 := blk_below b3 l15
          replace R49 := Kd.R_below R49 l15
          replace L := below_step L l15
          refine E.GL.store_whole rfl rfl rfl rfl rfl b15 rfl info25s (eight_one _ _ _ _ _ _ _ _) fun wS14_2 c15 lS14_2 => ?_
          replace b3 := blk_grown b3 lS14_2 (E.nes (by first | assumption | exact Ne.symm (by assumption)))
          replace R49 := Kd.R_grown1 R49 rfl lS14_2 (by first | assumption | exact Kd.R_ne R49 b15 (by decide))
          replace L := E.below_own L h15_L lS14_2
          replace b15 := c15
          clear c15
          refine E.GL.done ?_
          refine E.QG.code ?_
          refine E.CG.seq ?_
          refine E.CG.list ?_
          refine E.GL.run rfl rfl rfl (E.Runs.fieldAddr rfl rfl hu25 rfl (by assumption) rfl) ?_
          refine E.GL.sn rfl rfl (E.ST.store rfl (by assumption) (by assumption) rfl rfl b15 rfl (show _ = #[.int .i64 4, .int .i64 H.walk, .int .i64 H.early, .int .i64 H.foyer, .int .i64 H.dl, .int .i64 H.dh, .int .i64 H.cl, .int .i64 H.ch] from rfl) fun wS15_1 c15 lS15_1 => ?_)
          replace b3 := blk_grown b3 lS15_1 (E.nes (by first | assumption | exact Ne.symm (by assumption)))
          replace R49 := Kd.R_grown1 R49 rfl lS15_1 (by first | assumption | exact Kd.R_ne R49 b15 (by decide))
          replace L := E.below_own L h15_L lS15_1
          replace b15 := c15
          clear c15
          refine E.GL.done ?_
          refine E.QG.code ?_
          refine E.CG.seq ?_
          refine E.CG.list ?_
          refine E.GL.run rfl rfl rfl (E.Runs.move rfl rfl) ?_
          refine E.GL.run rfl rfl rfl (E.Runs.move rfl rfl) ?_
          refine E.GL.st rfl rfl rfl (E.ST.call rfl ent39 (E.evc rfl (E.evc rfl E.evn)) ((with_row l us A1 A3 c1 c3 _ (by omega) (Kd.C_below hr L) hc (Kd.C_below hR L)).mono ?_))
          rintro e w124 ⟨Av, cv, rfl, kv, rv_, l124⟩
          refine ⟨_, rfl, ?_⟩
          replace b3 := blk_below b3 l124
          replace b15 := blk_below b15 l124
          replace R49 := Kd.R_below R49 l124
          replace L := below_step L l124
          have lv := Below.refl w124.heap.size w124
          refine E.GL.run rfl rfl rfl (E.Runs.assign rfl rfl) ?_
          refine E.GL.done ?_
          refine E.QG.code ?_
          refine E.CG.seq ?_
          refine E.CG.seq ?_
          refine E.CG.list ?_
          refine E.GL.run rfl rfl rfl (E.Runs.loads (cs := [.int .i64 4, .int .i64 H.walk, .int .i64 H.early, .int .i64 H.foyer, .int .i64 H.dl, .int .i64 H.dh, .int .i64 H.cl, .int .i64 H.ch]) rfl rfl hu25 rfl info25s (blk_cells b15)) ?_
          refine E.GL.run rfl rfl rfl (E.Runs.move rfl rfl) ?_
          refine E.GL.st rfl rfl rfl (E.ST.call rfl ent19 (E.evc rfl (E.evc rfl E.evn)) ((check_ref (four H) (withT l us) Av cv _ (by rw [withT_length]; omega) (Kd.C_below rv_ lv) kv).mono ?_))
          rintro e w127 ⟨rfl, l127⟩
          refine ⟨_, rfl, ?_⟩
          replace b3 := blk_below b3 l127
          replace b15 := blk_below b15 l127
          replace R49 := Kd.R_below R49 l127
          replace L := below_step L l127
          replace lv := below_step lv l127
          refine E.GL.cmpn rfl rfl rfl (fun _ h => (E.Runs.neq rfl rfl rfl h)) (fun h128 => ?_) (fun h128 => ?_)
          · refine E.GL.done ?_
            refine E.QG.code ?_
            refine E.CG.cond_t rfl ?_
            refine E.CG.seq ?_
            refine E.CG.list ?_
            refine E.GL.st rfl rfl rfl (E.ST.call rfl ent14 E.evn ((works_calls _).mono ?_))
            rintro e w129 ⟨rfl, l129⟩
            refine ⟨_, rfl, ?_⟩
            replace b3 := blk_below b3 l129
            replace b15 := blk_below b15 l129
            replace R49 := Kd.R_below R49 l129
            replace L := below_step L l129
            replace lv := below_step lv l129
            refine E.GL.run rfl rfl rfl (E.Runs.assign rfl rfl) ?_
            refine E.GL.done ?_
            refine E.QG.code ?_
            refine E.CG.ret ?_
            refine E.QG.pass_ret ?_
            exact E.QG.result rfl rfl ⟨rfl, L⟩
          · have V4 := (checkE_valid _ _).mp h128
            refine E.GL.done ?_
            refine E.QG.code ?_
            refine E.CG.cond_f rfl ?_
            refine E.CG.skip ?_
            refine E.QG.code ?_
            refine E.CG.seq ?_
            refine E.CG.list ?_
            refine E.GL.run rfl rfl rfl (E.Runs.assign rfl rfl) ?_
            refine E.GL.done ?_
            refine E.QG.code ?_
            refine E.CG.seq ?_
            refine E.CG.seq ?_
            refine E.CG.list ?_
            refine E.GL.run rfl rfl rfl (E.Runs.assign rfl rfl) ?_
            refine E.GL.done ?_
            refine E.QG.code ?_
            refine E.CG.block ?_
            have s21_b3 := b3
            have s21_b15 := b15
            have s21_L := L
            have s21_lv := lv
            refine E.CG.loop (fun (t : Nat) => [(2, .slice A3 us.length c3), (7, .int .i64 (fewE H l).1), (8, .int .i64 (fewE H l).2), (15, .pointer (some ⟨g15, 0, none⟩)), (16, .slice Av (withT l us).length cv), (17, .int .i64 (cntT us t : Int)), (18, .int .i64 t)]) (fun t w' => t ≤ 4 ∧ w'.heap[g15]? = some (.cells #[.int .i64 4, .int .i64 H.walk, .int .i64 H.early, .int .i64 H.foyer, .int .i64 H.dl, .int .i64 H.dh, .int .i64 H.cl, .int .i64 H.ch] 25 (0, 0)) ∧ Below w.heap.size w w' ∧ Below w124.heap.size w124 w') (fun t => 4 - t) 0 (E.subc rfl (E.subc rfl (E.subc rfl (E.subc rfl (E.subc rfl (E.subc rfl (E.subc rfl (E.subn)))))))) ⟨Nat.zero_le _, b15, L, lv⟩ ?_
            rintro t w21 ⟨ht, b15, L, lv⟩
            refine E.CG.seq ?_
            refine E.CG.seq ?_
            refine E.CG.list ?_
            refine E.GL.run rfl rfl rfl (E.Runs.move rfl rfl) ?_
            refine E.GL.cmp rfl rfl rfl (fun _ h => (E.Runs.lss rfl rfl rfl h)) (fun h131 => ?_) (fun h131 => ?_)
            · have ht4 : t < 4 := by omega
              have hct := cntT_le us t
              refine E.GL.done ?_
              refine E.QG.code ?_
              refine E.CG.cond_t rfl ?_
              refine E.CG.skip ?_
              refine E.QG.code ?_
              refine E.CG.seq ?_
              refine E.CG.block ?_
              refine E.CG.seq ?_
              refine E.CG.list ?_
              refine E.GL.run rfl rfl rfl (E.Runs.assign rfl rfl) ?_
              refine E.GL.done ?_
              refine E.QG.code ?_
              refine E.CG.block ?_
              have s24_b15 := b15
              have s24_L := L
              refine E.CG.loop (fun (j : Nat) => [(2, .slice A3 us.length c3), (7, .int .i64 (fewE H l).1), (8, .int .i64 (fewE H l).2), (15, .pointer (some ⟨g15, 0, none⟩)), (16, .slice Av (withT l us).length cv), (17, .int .i64 (cntT us t : Int)), (18, .int .i64 t), (19, .int .i64 j)]) (fun j w' => j ≤ us.length ∧ (∀ k, k < j → us[k]? ≠ some (t : Int)) ∧ w'.heap[g15]? = some (.cells #[.int .i64 4, .int .i64 H.walk, .int .i64 H.early, .int .i64 H.foyer, .int .i64 H.dl, .int .i64 H.dh, .int .i64 H.cl, .int .i64 H.ch] 25 (0, 0)) ∧ Below w.heap.size w w' ∧ Below w124.heap.size w124 w') (fun j => us.length - j) 0 (E.subc rfl (E.subc rfl (E.subc rfl (E.subc rfl (E.subc rfl (E.subc rfl (E.subc rfl (E.subc rfl (E.subn))))))))) ⟨Nat.zero_le _, (fun k hk => by omega), b15, L, lv⟩ ?_
              rintro j w24 ⟨hj, hj0, b15, L, lv⟩
              refine E.CG.seq ?_
              refine E.CG.seq ?_
              refine E.CG.list ?_
              refine E.GL.run rfl rfl rfl (E.Runs.move rfl rfl) ?_
              refine E.GL.run rfl rfl rfl (E.Runs.move rfl rfl) ?_
              refine E.GL.run rfl rfl rfl (E.Runs.len rfl rfl hu47) ?_
              refine E.GL.cmp rfl rfl rfl (fun _ h => (E.Runs.lss rfl rfl rfl h)) (fun h137 => ?_) (fun h137 => ?_)
              · have hjl : j < us.length := by omega
                obtain ⟨x, hx⟩ : ∃ x, us[j]? = some x := ⟨_, List.getElem?_eq_getElem hjl⟩
                obtain ⟨aa, eR, yr⟩ := int_at hR hx
                refine E.GL.done ?_
                refine E.QG.code ?_
                refine E.CG.cond_t rfl ?_
                refine E.CG.skip ?_
                refine E.QG.code ?_
                refine E.CG.seq ?_
                refine E.CG.block ?_
                refine E.CG.seq ?_
                refine E.CG.list ?_
                refine E.GL.run rfl rfl rfl (E.Runs.move rfl rfl) ?_
                refine E.GL.run rfl rfl rfl (E.Runs.move rfl rfl) ?_
                refine E.GL.run rfl rfl rfl (E.Runs.indexAddrA rfl rfl rfl hu47 (by assumption) (by assumption) (by assumption) (by first | rfl | assumption) rfl) ?_
                refine E.GL.run rfl rfl rfl (E.Runs.load rfl rfl hu3 (by first | assumption | exact E.blkc (by assumption) rfl | exact pw_cell_below L (by assumption))) ?_
                refine E.GL.run rfl rfl rfl (E.Runs.move rfl rfl) ?_
                refine E.GL.cmp rfl rfl rfl (fun _ h => (E.Runs.eql rfl rfl rfl h)) (fun h145 => ?_) (fun h145 => ?_)
                · have hcnt := cntT_in (us := us) (t := t) (by rw [← h145]; exact List.mem_of_getElem? hx)
                  refine E.GL.done ?_
                  refine E.QG.code ?_
                  refine E.CG.cond_t rfl ?_
                  refine E.CG.seq ?_
                  refine E.CG.list ?_
                  refine E.GL.run rfl rfl rfl (E.Runs.move rfl rfl) ?_
                  refine E.GL.run rfl rfl rfl (E.Runs.add rfl rfl rfl (IntWalk.i64_in _ (by omega))) ?_
                  refine E.GL.run rfl rfl rfl (E.Runs.assign rfl rfl) ?_
                  refine E.GL.done ?_
                  refine E.QG.code ?_
                  refine E.CG.exit ?_
                  refine E.QG.block_out rfl ?_
                  refine E.QG.pass_exit ?_
                  refine E.QG.pass_exit ?_
                  refine E.QG.block_here ?_
                  refine E.QG.block_normal ?_
                  refine E.QG.code ?_
                  refine E.CG.list ?_
                  refine E.GL.run rfl rfl rfl (E.Runs.move rfl rfl) ?_
                  refine E.GL.run rfl rfl rfl (E.Runs.add rfl rfl rfl (IntWalk.i64_in _ (by omega))) ?_
                  refine E.GL.run rfl rfl rfl (E.Runs.assign rfl rfl) ?_
                  refine E.GL.done ?_
                  exact E.QG.round (t + 1) (E.subc rfl (E.subc rfl (E.subc rfl (E.subc rfl (E.subc rfl (E.subc (by rw [hcnt]; rfl) (E.subc rfl E.subn))))))) ⟨by omega, b15, L, lv⟩ (by omega)
                · refine E.GL.done ?_
                  refine E.QG.code ?_
                  refine E.CG.cond_f rfl ?_
                  refine E.CG.skip ?_
                  refine E.QG.block_normal ?_
                  refine E.QG.code ?_
                  refine E.CG.list ?_
                  refine E.GL.run rfl rfl rfl (E.Runs.move rfl rfl) ?_
                  refine E.GL.run rfl rfl rfl (E.Runs.add rfl rfl rfl (IntWalk.i64_in _ (by omega))) ?_
                  refine E.GL.run rfl rfl rfl (E.Runs.assign rfl rfl) ?_
                  refine E.GL.done ?_
                  exact E.QG.round (j + 1) (E.subc rfl (E.subc rfl (E.subc rfl (E.subc rfl (E.subc rfl (E.subc rfl (E.subc rfl (E.subc rfl E.subn)))))))) ⟨by omega, next_less hj0 hx h145, b15, L, lv⟩ (by omega)
              · have hcnt := cntT_out (all_less hj0 (by omega))
                refine E.GL.done ?_
                refine E.QG.code ?_
                refine E.CG.cond_f rfl ?_
                refine E.CG.exit ?_
                refine E.QG.pass_exit ?_
                refine E.QG.pass_exit ?_
                refine E.QG.block_here ?_
                refine E.QG.block_normal ?_
                refine E.QG.code ?_
                refine E.CG.list ?_
                refine E.GL.run rfl rfl rfl (E.Runs.move rfl rfl) ?_
                refine E.GL.run rfl rfl rfl (E.Runs.add rfl rfl rfl (IntWalk.i64_in _ (by omega))) ?_
                refine E.GL.run rfl rfl rfl (E.Runs.assign rfl rfl) ?_
                refine E.GL.done ?_
                exact E.QG.round (t + 1) (E.subc rfl (E.subc rfl (E.subc rfl (E.subc rfl (E.subc rfl (E.subc (by rw [hcnt]; rfl) (E.subc rfl E.subn))))))) ⟨by omega, b15, L, lv⟩ (by omega)
            · obtain rfl : t = 4 := by omega
              refine E.GL.done ?_
              refine E.QG.code ?_
              refine E.CG.cond_f rfl ?_
              refine E.CG.exit ?_
              refine E.QG.pass_exit ?_
              refine E.QG.pass_exit ?_
              refine E.QG.block_here ?_
              refine E.QG.code ?_
              refine E.CG.seq ?_
              refine E.CG.list ?_
              refine E.GL.run rfl rfl rfl (E.Runs.loads (cs := [.int .i64 4, .int .i64 H.walk, .int .i64 H.early, .int .i64 H.foyer, .int .i64 H.dl, .int .i64 H.dh, .int .i64 H.cl, .int .i64 H.ch]) rfl rfl hu25 rfl info25s (blk_cells b15)) ?_
              refine E.GL.run rfl rfl rfl (E.Runs.move rfl rfl) ?_
              refine E.GL.st rfl rfl rfl (E.ST.call rfl ent23 (E.evc rfl (E.evc rfl E.evn)) ((late_own (four H) (withT l us) Av cv _ (by rw [withT_length]; omega) (Kd.C_below rv_ lv) kv).mono ?_))
              rintro e w151 ⟨rfl, l151⟩
              refine ⟨_, rfl, ?_⟩
              replace b15 := blk_below b15 l151
              replace L := below_step L l151
              refine E.GL.run rfl rfl rfl (E.Runs.move rfl rfl) ?_
              refine E.GL.run rfl rfl rfl (E.Runs.extract rfl rfl rfl) ?_
              refine E.GL.run rfl rfl rfl (E.Runs.extract rfl rfl rfl) ?_
              refine E.GL.run rfl rfl rfl (E.Runs.extract rfl rfl rfl) ?_
              refine E.GL.run rfl rfl rfl (E.Runs.assign rfl rfl) ?_
              refine E.GL.run rfl rfl rfl (E.Runs.assign rfl rfl) ?_
              refine E.GL.run rfl rfl rfl (E.Runs.assign rfl rfl) ?_
              refine E.GL.done ?_
              refine E.QG.code ?_
              refine E.CG.seq ?_
              refine E.CG.list ?_
              refine E.GL.run rfl rfl rfl (E.Runs.move rfl rfl) ?_
              refine E.GL.run rfl rfl rfl (E.Runs.eql rfl rfl rfl (decide_eq_true (lateE_ok V4))) ?_
              refine E.GL.run rfl rfl rfl (E.Runs.move rfl rfl) ?_
              refine E.GL.run rfl rfl rfl (E.Runs.move rfl rfl) ?_
              refine E.GL.cmp rfl rfl rfl (fun _ h => (E.Runs.geq rfl rfl rfl h)) (fun h159 => ?_) (fun h159 => ?_)
              · refine E.GL.run rfl rfl rfl (E.Runs.move rfl rfl) ?_
                refine E.GL.skip rfl rfl rfl ?_
                refine E.GL.skip rfl rfl rfl ?_
                refine E.GL.skip rfl rfl rfl ?_
                refine E.GL.skip rfl rfl rfl ?_
                refine E.GL.skip rfl rfl rfl ?_
                refine E.GL.skip rfl rfl rfl ?_
                refine E.GL.skip rfl rfl rfl ?_
                refine E.GL.skip rfl rfl rfl ?_
                refine E.GL.run rfl rfl rfl (E.Runs.pick_t rfl rfl rfl) ?_
                refine E.GL.run rfl rfl rfl (E.Runs.pick_t rfl rfl rfl) ?_
                refine E.GL.run rfl rfl rfl (E.Runs.move rfl rfl) ?_
                refine E.GL.st rfl rfl rfl (E.ST.call rfl ent14 E.evn ((works_calls _).mono ?_))
                rintro e w172 ⟨rfl, l172⟩
                refine ⟨_, rfl, ?_⟩
                replace b15 := blk_below b15 l172
                replace L := below_step L l172
                refine E.GL.run rfl rfl rfl (E.Runs.pick_t rfl rfl rfl) ?_
                refine E.GL.run rfl rfl rfl (E.Runs.assign rfl rfl) ?_
                refine E.GL.done ?_
                refine E.QG.code ?_
                refine E.CG.ret ?_
                exact E.QG.result rfl rfl ⟨rfl, L⟩
              · have hcan := canX_of hlu V4 h159
                have hc4 := cntT_le us 4
                obtain ⟨hf0, hf1⟩ := few_most h25 hcan (by unfold mx; split <;> omega) (by unfold mx; split <;> omega)
                refine E.GL.run rfl rfl rfl (E.Runs.move rfl rfl) ?_
                refine E.GL.run rfl rfl rfl (E.Runs.move rfl rfl) ?_
                refine E.GL.run rfl rfl rfl (E.Runs.eql rfl rfl rfl (decide_eq_true hf0)) ?_
                refine E.GL.run rfl rfl rfl (E.Runs.move rfl rfl) ?_
                refine E.GL.run rfl rfl rfl (E.Runs.move rfl rfl) ?_
                refine E.GL.run rfl rfl rfl (E.Runs.max rfl rfl rfl rfl) ?_
                refine E.GL.run rfl rfl rfl (E.Runs.move rfl rfl) ?_
                refine E.GL.run rfl rfl rfl (E.Runs.geq rfl rfl rfl (decide_eq_true hf1)) ?_
                refine E.GL.run rfl rfl rfl (E.Runs.pick_t rfl rfl rfl) ?_
                refine E.GL.run rfl rfl rfl (E.Runs.pick_f rfl rfl rfl) ?_
                refine E.GL.run rfl rfl rfl (E.Runs.pick_t rfl rfl rfl) ?_
                refine E.GL.run rfl rfl rfl (E.Runs.move rfl rfl) ?_
                refine E.GL.st rfl rfl rfl (E.ST.call rfl ent14 E.evn ((works_calls _).mono ?_))
                rintro e w172 ⟨rfl, l172⟩
                refine ⟨_, rfl, ?_⟩
                replace b15 := blk_below b15 l172
                replace L := below_step L l172
                refine E.GL.run rfl rfl rfl (E.Runs.pick_t rfl rfl rfl) ?_
                refine E.GL.run rfl rfl rfl (E.Runs.assign rfl rfl) ?_
                refine E.GL.done ?_
                refine E.QG.code ?_
                refine E.CG.ret ?_
                exact E.QG.result rfl rfl ⟨rfl, L⟩
  · refine E.GL.st rfl rfl rfl (E.ST.call rfl ent13 (E.evc rfl (E.evc rfl E.evn)) ((valid_row H l A1 c1 _ false (iff_of_false Bool.false_ne_true h25) (Kd.C_below hr L) hc).mono ?_))
    rintro e w25 ⟨rfl, l25⟩
    refine ⟨_, rfl, ?_⟩
    replace b3 := blk_below b3 l25
    replace L := below_step L l25
    refine E.GL.run rfl rfl rfl (E.Runs.not rfl rfl) ?_
    refine E.GL.run rfl rfl rfl (E.Runs.move rfl rfl) ?_
    refine E.GL.skip rfl rfl rfl ?_
    refine E.GL.skip rfl rfl rfl ?_
    refine E.GL.skip rfl rfl rfl ?_
    refine E.GL.run rfl rfl rfl (E.Runs.pick_t rfl rfl rfl) ?_
    refine E.GL.run rfl rfl rfl (E.Runs.move rfl rfl) ?_
    refine E.GL.skip rfl rfl rfl ?_
    refine E.GL.skip rfl rfl rfl ?_
    refine E.GL.skip rfl rfl rfl ?_
    refine E.GL.skip rfl rfl rfl ?_
    refine E.GL.skip rfl rfl rfl ?_
    refine E.GL.run rfl rfl rfl (E.Runs.pick_t rfl rfl rfl) ?_
    refine E.GL.done ?_
    refine E.QG.code ?_
    refine E.CG.cond_t rfl ?_
    refine E.CG.seq ?_
    refine E.CG.list ?_
    refine E.GL.st rfl rfl rfl (E.ST.call rfl ent14 E.evn ((works_calls _).mono ?_))
    rintro e w39 ⟨rfl, l39⟩
    refine ⟨_, rfl, ?_⟩
    replace b3 := blk_below b3 l39
    replace L := below_step L l39
    refine E.GL.run rfl rfl rfl (E.Runs.assign rfl rfl) ?_
    refine E.GL.done ?_
    refine E.QG.code ?_
    refine E.CG.ret ?_
    refine E.QG.pass_ret ?_
    exact E.QG.result rfl rfl ⟨rfl, L⟩

end Go.Proofs.Ythdbkhdiaehblaa.T
