/- TurnReal: whatever happens, it is within what Times tells; the walk. -/
import Derived.Test.YthdbkhdiaehblaaT29
namespace Go.Proofs.Ythdbkhdiaehblaa.T
open Go.RowKit Go.Proofs.YthdbkhdiaehblaaW.PrintWords Go.Proofs.YthdbkhdiaehblaaW.PrintMore
open Go.Proofs.Ythdbkhdiaehblaa.P
set_option linter.unusedVariables false
theorem all2_of {α β : Type} {R : α → β → Prop} : ∀ {xs : List α} {ys : List β}, xs.length = ys.length → (∀ (i : Nat) (x : α) (y : β), xs[i]? = some x → ys[i]? = some y → R x y) → All2 R xs ys
  | [], [], _, _ => trivial
  | [], _ :: _, h, _ => by simp at h
  | _ :: _, [], h, _ => by simp at h
  | x :: xs, y :: ys, h, k => ⟨k 0 x y rfl rfl, all2_of (by simpa using h) fun i a b ha hb => k (i + 1) a b (by simpa using ha) (by simpa using hb)⟩
/-- What lateT tells. -/
theorem lateT_spec : ∀ (l : List S36) (ts : List Tm) (n : Int),
    (lateT l ts n = (-1, 0) ∧ ∀ (j : Nat) (s : S36) (t : Tm), l[j]? = some s → ts[j]? = some t → t.start ≤ s.f1) ∨
    (∃ (j : Nat) (s : S36) (t : Tm), l[j]? = some s ∧ ts[j]? = some t ∧ s.f1 < t.start ∧ lateT l ts n = (n + j, t.start - s.f1) ∧ ∀ (k : Nat) (s : S36) (t : Tm), k < j → l[k]? = some s → ts[k]? = some t → t.start ≤ s.f1)
  | [], ts, n => .inl ⟨rfl, fun j s t h => by simp at h⟩
  | s :: l, [], n => .inl ⟨rfl, fun j s t _ h => by simp at h⟩
  | s :: l, t :: ts, n => by
    by_cases h : s.f1 < t.start
    · exact .inr ⟨0, s, t, rfl, rfl, h, by simp [lateT, h], fun k _ _ hk => absurd hk (Nat.not_lt_zero _)⟩
    · rcases lateT_spec l ts (n + 1) with ⟨h1, h2⟩ | ⟨j, s', t', h1, h2, h3, h4, h5⟩
      · refine .inl ⟨by simp [lateT, h, h1], fun j a b ha hb => ?_⟩
        rcases j with _ | j
        · cases ha; cases hb; exact Int.not_lt.mp h
        · exact h2 j a b (by simpa using ha) (by simpa using hb)
      · refine .inr ⟨j + 1, s', t', by simpa using h1, by simpa using h2, h3, ?_, fun k a b hk ha hb => ?_⟩
        · rw [lateT, if_neg h, h4]
          simp
          omega
        · rcases k with _ | k
          · cases ha; cases hb; exact Int.not_lt.mp h
          · exact h5 k a b (by omega) (by simpa using ha) (by simpa using hb)
theorem rtC {H : Hs} (h : HouseOk H) {ra : Int} (k : H.dl ≤ ra ∧ ra ≤ H.dh) : RtOk (⟨ra, H.walk, H.early⟩ : Rt) := by
  obtain ⟨h1, h2, h3, h4, h5, h6⟩ := h
  exact ⟨show 1 ≤ ra by omega, show ra ≤ 1000 by omega, show 0 ≤ H.walk by omega, show H.walk ≤ 1000 by omega, show 0 ≤ H.early by omega, show H.early ≤ 1000 by omega⟩
theorem itC {H : Hs} {l : List S36} {rs cs : List Int} {ra : Int} (h : Valid H l) (k : CaseOk H l rs cs ra) : ∀ x ∈ items l rs cs, ItOk x := by
  intro x hx
  obtain ⟨i, h1, h2, h3⟩ := items_mem l rs cs x hx
  obtain ⟨q1, q2⟩ := k.2.2.2 i _ _ _ h1 h2 h3
  obtain ⟨⟨k1, k2, k3, k4⟩, k5⟩ := valid_slots h x.s (List.mem_of_getElem? h1)
  obtain ⟨g1, g2, g3, g4, g5, g6⟩ := h.1
  exact ⟨by omega, by omega, by omega, by omega, by omega, by omega, by omega, by omega⟩
/-- What happens in a case is between what is told. -/
theorem case_between {H : Hs} {l : List S36} {rs cs : List Int} {ra : Int} (h : Valid H l) (k : CaseOk H l rs cs ra) {i : Nat} {t r u : Tm}
    (ht : (dayT (rtOf (pcE H) H) (l.map (itOf (pcE H))))[i]? = some t) (hr : (dayT (⟨ra, H.walk, H.early⟩ : Rt) (items l rs cs))[i]? = some r) (hu : (dayT (rtOf (pcL H) H) (l.map (itOf (pcL H))))[i]? = some u) : PlLe t r ∧ PlLe r u := by
  have hl := items_length l rs cs k.1 k.2.1
  have XE : ∀ x ∈ l.map (itOf (pcE H)), ItOk x := by
    intro x hx
    obtain ⟨y, hy, rfl⟩ := List.mem_map.mp hx
    exact itE h.1 (valid_slots h y hy)
  have at_ : ∀ (j : Nat) (y : It), (items l rs cs)[j]? = some y → l[j]? = some y.s ∧ (y.s.f2.f0 ≤ y.run ∧ y.run ≤ y.s.f2.f1) ∧ (H.cl ≤ y.cl ∧ y.cl ≤ H.ch) := by
    intro j y hy
    have hj : j < l.length := by have := (List.getElem?_eq_some_iff.1 hy).1; omega
    obtain ⟨s, hs⟩ : ∃ s, l[j]? = some s := ⟨_, List.getElem?_eq_getElem hj⟩
    obtain ⟨a, ha⟩ : ∃ a, rs[j]? = some a := ⟨_, List.getElem?_eq_getElem (by have := k.1; omega)⟩
    obtain ⟨b, hb⟩ : ∃ b, cs[j]? = some b := ⟨_, List.getElem?_eq_getElem (by have := k.2.1; omega)⟩
    rw [items_get l rs cs j s a b hs ha hb] at hy
    cases hy
    exact ⟨hs, k.2.2.2 j s a b hs ha hb⟩
  refine ⟨(runT_mono (rtE h.1) (rtC h.1 k.2.2.1) ?_ _ _ [] [] (all2_of (by rw [List.length_map, hl]) fun j x y hx hy => ?_) XE AccLe.nil).get ht hr, (runT_mono (rtC h.1 k.2.2.1) (rtL h.1) ?_ _ _ [] [] (all2_of (by rw [List.length_map, hl]) fun j x y hx hy => ?_) (itC h k) AccLe.nil).get hr hu⟩
  · exact ⟨k.2.2.1.2, Int.le_refl _, rfl⟩
  · obtain ⟨h1, h2, h3⟩ := at_ j y hy
    rw [List.getElem?_map, h1] at hx
    cases hx
    exact ⟨rfl, rfl, rfl, rfl, h2.1, h3.1⟩
  · exact ⟨k.2.2.1.1, Int.le_refl _, rfl⟩
  · obtain ⟨h1, h2, h3⟩ := at_ j x hx
    rw [List.getElem?_map, h1] at hy
    cases hy
    exact ⟨rfl, rfl, rfl, rfl, h2.2, h3.2⟩
/-- What Late tells, in short. -/
structure LateIs (H : Hs) (l : List S36) : Prop where
  lo : -1 ≤ (lateT l (lateDay H l) 0).1
  hi : (lateT l (lateDay H l) 0).1 < l.length ∨ (lateT l (lateDay H l) 0).1 = -1
  no : (lateT l (lateDay H l) 0).1 = -1 ↔ (lateT l (lateDay H l) 0).2 = 0
  by0 : 0 ≤ (lateT l (lateDay H l) 0).2
  at_ : ∀ (i : Nat) (s : S36) (u : Tm), l[i]? = some s → (lateDay H l)[i]? = some u → (u.start - s.f1 > 0 → (lateT l (lateDay H l) 0).1 ≠ -1 ∧ ¬ (i : Int) < (lateT l (lateDay H l) 0).1) ∧ ((i : Int) = (lateT l (lateDay H l) 0).1 → u.start - s.f1 = (lateT l (lateDay H l) 0).2)
theorem late_is {H : Hs} {l : List S36} : LateIs H l := by
  rcases lateT_spec l (lateDay H l) 0 with ⟨h1, h2⟩ | ⟨j, s, t, h1, h2, h3, h4, h5⟩
  · refine ⟨by rw [h1]; exact Int.le_refl _, .inr (by rw [h1]), by rw [h1]; simp, by rw [h1]; exact Int.le_refl _, fun i s u hs hu => ?_⟩
    rw [h1]
    have := h2 i s u hs hu
    exact ⟨fun hh => by omega, fun hh => by have h3 : (i : Int) = -1 := hh; omega⟩
  · have hj := (List.getElem?_eq_some_iff.1 h1).1
    refine ⟨by rw [h4]; show (-1 : Int) ≤ 0 + j; omega, .inl (by rw [h4]; show (0 : Int) + j < l.length; omega), by rw [h4]; show (0 : Int) + j = -1 ↔ t.start - s.f1 = 0; omega, by rw [h4]; show 0 ≤ t.start - s.f1; omega, fun i s' u hs hu => ?_⟩
    rw [h4]
    show (u.start - s'.f1 > 0 → (0 : Int) + j ≠ -1 ∧ ¬ (i : Int) < 0 + j) ∧ ((i : Int) = 0 + j → u.start - s'.f1 = t.start - s.f1)
    refine ⟨fun hh => ⟨by omega, fun hlt => ?_⟩, fun hh => ?_⟩
    · have := h5 i s' u (by omega) hs hu
      omega
    · have : i = j := by omega
      subst this
      rw [h1] at hs
      rw [h2] at hu
      cases hs
      cases hu
      rfl
theorem MomAt.sp0 {w : World} {ad : Addr} {k : Nat} {t u : Tm} (h : MomAt w ad k t u) (j : Nat) (v : Value) (hv : ([.int .i64 t.enter, .int .i64 u.enter] : List Value)[j]? = some v) : w.cell? ((E.onA (ad.add (k * 10)) 0).add j) = some v := by
  rcases j with _ | _ | j
  · cases hv; exact h.c0
  · cases hv; exact h.c1
  · simp at hv
theorem span_at {w : World} {p : Addr} {a b : Value} (n : Nat) (h0 : w.cell? ⟨p.block, p.off + (n + 1), none⟩ = some a) (h1 : w.cell? ⟨p.block, p.off + (n + 2), none⟩ = some b) (j : Nat) (v : Value) (hv : ([a, b] : List Value)[j]? = some v) : w.cell? ((E.onA p (n + 1)).add j) = some v := by
  rcases j with _ | _ | j
  · cases hv; exact h0
  · cases hv; exact h1
  · simp at hv
theorem MomAt.sp1 {w : World} {ad : Addr} {k : Nat} {t u : Tm} (h : MomAt w ad k t u) (j : Nat) (v : Value) (hv : ([.int .i64 t.seated, .int .i64 u.seated] : List Value)[j]? = some v) : w.cell? ((E.onA (ad.add (k * 10)) 2).add j) = some v := span_at (p := ad.add (k * 10)) 1 h.c2 h.c3 j v hv
theorem MomAt.sp2 {w : World} {ad : Addr} {k : Nat} {t u : Tm} (h : MomAt w ad k t u) (j : Nat) (v : Value) (hv : ([.int .i64 t.start, .int .i64 u.start] : List Value)[j]? = some v) : w.cell? ((E.onA (ad.add (k * 10)) 4).add j) = some v := span_at (p := ad.add (k * 10)) 3 h.c4 h.c5 j v hv
theorem MomAt.sp3 {w : World} {ad : Addr} {k : Nat} {t u : Tm} (h : MomAt w ad k t u) (j : Nat) (v : Value) (hv : ([.int .i64 t.empty, .int .i64 u.empty] : List Value)[j]? = some v) : w.cell? ((E.onA (ad.add (k * 10)) 6).add j) = some v := span_at (p := ad.add (k * 10)) 5 h.c6 h.c7 j v hv
theorem MomAt.sp4 {w : World} {ad : Addr} {k : Nat} {t u : Tm} (h : MomAt w ad k t u) (j : Nat) (v : Value) (hv : ([.int .i64 t.ready, .int .i64 u.ready] : List Value)[j]? = some v) : w.cell? ((E.onA (ad.add (k * 10)) 8).add j) = some v := span_at (p := ad.add (k * 10)) 7 h.c8 h.c9 j v hv
theorem run_row' (H : Hs) (l : List S36) (rs cs : List Int) (ra : Int) (A1 Ar Ac : Option Addr) (c1 cr cc : Nat) (w : World) (hn : l.length ≤ 100) (R : RtOk (⟨ra, H.walk, H.early⟩ : Rt)) (X : ∀ x ∈ items l rs cs, ItOk x) (h1 : rs.length = l.length) (h2 : cs.length = l.length)
    (hr : Kd.C k36 w A1 l.length l) (hc : l.length ≤ c1) (hR : Kd.C (Kd.int .i64) w Ar rs.length rs) (hC : Kd.C (Kd.int .i64) w Ac cs.length cs) :
    Calls Try.prog 24 #[hv H, .slice A1 l.length c1, .agg #[.slice Ar rs.length cr, .slice Ac cs.length cc, .int .i64 ra]] w fun e w' => ∃ A c, e = .returned (.slice A l.length c) ∧ l.length ≤ c ∧ Kd.C kTm w' A l.length (dayT (⟨ra, H.walk, H.early⟩ : Rt) (items l rs cs)) ∧ Below w.heap.size w w' := by
  rw [h1, h2]
  rw [h1] at hR
  rw [h2] at hC
  exact run_row H l rs cs ra A1 Ar Ac c1 cr cc w hn R X hr hc hR hC
set_option maxRecDepth 100000 in
set_option maxHeartbeats 40000000 in

theorem real_calls (H : Hs) (l : List S36) (rs cs : List Int) (ra : Int) (A1 Ar Ac : Option Addr) (c1 cr cc : Nat) (w : World)
    (hr : Kd.C k36 w A1 l.length l) (hc : l.length ≤ c1) (hR : Kd.C (Kd.int .i64) w Ar rs.length rs) (hC : Kd.C (Kd.int .i64) w Ac cs.length cs) :
    Calls Try.prog 6 #[hv H, .slice A1 l.length c1, .agg #[.slice Ar rs.length cr, .slice Ac cs.length cc, .int .i64 ra]] w fun e w' => e = .returned (.bool true) ∧ Below w.heap.size w w' := by
  have hu3 := Try.underlying3
  have hu23 := Try.underlying23
  have hu25 := Try.underlying25
  have hu26 := Try.underlying26
  have hu29 := Try.underlying29
  have hu34 := Try.underlying34
  have hu36 := Try.underlying36
  have hu47 := Try.underlying47
  have hu49 := Try.underlying49
  have hu53 := Try.underlying53
  have hu56 := Try.underlying56
  obtain ⟨z3, o3⟩ := info_some info3s (by decide)
  obtain ⟨z23, o23⟩ := info_some info23s (by decide)
  obtain ⟨z34, o34⟩ := info_some info34s (by decide)
  obtain ⟨z36, o36⟩ := info_some info36s (by decide)
  obtain ⟨z47, o47⟩ := info_some info47s (by decide)
  obtain ⟨z56, o56⟩ := info_some info56s (by decide)
  refine E.enter (N := 176) Try.func6 rfl Try.ntmps6 (args := [hv H, .slice A1 l.length c1, .agg #[.slice Ar rs.length cr, .slice Ac cs.length cc, .int .i64 ra]]) (by simp) ?_
  have L := Below.refl w.heap.size w
  refine E.CG.seq ?_
  refine E.CG.list ?_
  refine E.GL.st rfl rfl rfl (E.ST.box rfl rfl fun g3 w3 e3 b3 l3 => ?_)
  have h3_L : w.heap.size ≤ g3 := by rw [e3]; exact L.size
  replace L := below_step L l3
  refine E.GL.st rfl rfl rfl (E.ST.box rfl rfl fun g5 w5 e5 b5 l5 => ?_)
  have h5_L : w.heap.size ≤ g5 := by rw [e5]; exact L.size
  have n5_b3 : g3 ≠ g5 := by have := blk_lt b3; omega
  replace b3 := blk_below b3 l5
  replace L := below_step L l5
  refine E.GL.run rfl rfl rfl (E.Runs.assign rfl rfl) ?_
  refine E.GL.done ?_
  refine E.QG.code ?_
  refine E.CG.seq ?_
  refine E.CG.seq ?_
  refine E.CG.list ?_
  refine E.GL.run rfl rfl rfl (E.Runs.loads (cs := [.int .i64 H.teams, .int .i64 H.walk, .int .i64 H.early, .int .i64 H.foyer, .int .i64 H.dl, .int .i64 H.dh, .int .i64 H.cl, .int .i64 H.ch]) rfl rfl hu25 rfl info25s (blk_cells b3)) ?_
  refine E.GL.run rfl rfl rfl (E.Runs.move rfl rfl) ?_
  by_cases h18 : Valid H l
  · have hn := h18.2.1
    refine E.GL.st rfl rfl rfl (E.ST.call rfl ent13 (E.evc rfl (E.evc rfl E.evn)) ((valid_row H l A1 c1 _ true (iff_of_true rfl h18) (Kd.C_below hr L) hc).mono ?_))
    rintro e w18 ⟨rfl, l18⟩
    refine ⟨_, rfl, ?_⟩
    replace b3 := blk_below b3 l18
    replace b5 := blk_below b5 l18
    replace L := below_step L l18
    refine E.GL.run rfl rfl rfl (E.Runs.not rfl rfl) ?_
    refine E.GL.run rfl rfl rfl (E.Runs.move rfl rfl) ?_
    refine E.GL.run rfl rfl rfl (E.Runs.loads (cs := [.int .i64 H.teams, .int .i64 H.walk, .int .i64 H.early, .int .i64 H.foyer, .int .i64 H.dl, .int .i64 H.dh, .int .i64 H.cl, .int .i64 H.ch]) rfl rfl hu25 rfl info25s (blk_cells b3)) ?_
    refine E.GL.run rfl rfl rfl (E.Runs.move rfl rfl) ?_
    refine E.GL.run rfl rfl rfl (E.Runs.loads (cs := [.slice Ar rs.length cr, .slice Ac cs.length cc, .int .i64 ra]) rfl rfl hu49 rfl info49s (blk_cells b5)) ?_
    by_cases h24 : CaseOk H l rs cs ra
    · have LI := @late_is H l
      obtain ⟨b0, hb66, hb68⟩ : ∃ b0 : Bool, decide ((lateT l (lateDay H l) 0).1 = -1) = b0 ∧ decide ((lateT l (lateDay H l) 0).2 = 0) = b0 := ⟨_, rfl, decide_eq_decide.mpr LI.no.symm⟩
      refine E.GL.st rfl rfl rfl (E.ST.call rfl ent22 (E.evc rfl (E.evc rfl (E.evc rfl E.evn))) ((case_row H l rs cs ra A1 Ar Ac c1 cr cc _ true (iff_of_true rfl h24) (by omega) (Kd.C_below hr L) hc (Kd.C_below hR L) (Kd.C_below hC L)).mono ?_))
      rintro e w24 ⟨rfl, l24⟩
      refine ⟨_, rfl, ?_⟩
      replace b3 := blk_below b3 l24
      replace b5 := blk_below b5 l24
      replace L := below_step L l24
      refine E.GL.run rfl rfl rfl (E.Runs.not rfl rfl) ?_
      refine E.GL.run rfl rfl rfl (E.Runs.pick_f rfl rfl rfl) ?_
      refine E.GL.done ?_
      refine E.QG.code ?_
      refine E.CG.cond_f rfl ?_
      refine E.CG.skip ?_
      refine E.QG.code ?_
      refine E.CG.seq ?_
      refine E.CG.list ?_
      refine E.GL.run rfl rfl rfl (E.Runs.loads (cs := [.int .i64 H.teams, .int .i64 H.walk, .int .i64 H.early, .int .i64 H.foyer, .int .i64 H.dl, .int .i64 H.dh, .int .i64 H.cl, .int .i64 H.ch]) rfl rfl hu25 rfl info25s (blk_cells b3)) ?_
      refine E.GL.run rfl rfl rfl (E.Runs.move rfl rfl) ?_
      refine E.GL.st rfl rfl rfl (E.ST.call rfl ent15 (E.evc rfl (E.evc rfl E.evn)) ((times_reads H l A1 c1 _ h18 (Kd.C_below hr L) hc).mono ?_))
      rintro e w31 ⟨Am, cm, rfl, km, l31⟩
      refine ⟨_, rfl, ?_⟩
      replace b3 := blk_below b3 l31
      replace b5 := blk_below b5 l31
      replace L := below_step L l31
      have lm := Below.refl w31.heap.size w31
      refine E.GL.run rfl rfl rfl (E.Runs.move rfl rfl) ?_
      refine E.GL.run rfl rfl rfl (E.Runs.extract rfl rfl rfl) ?_
      refine E.GL.run rfl rfl rfl (E.Runs.extract rfl rfl rfl) ?_
      refine E.GL.run rfl rfl rfl (E.Runs.assign rfl rfl) ?_
      refine E.GL.run rfl rfl rfl (E.Runs.assign rfl rfl) ?_
      refine E.GL.done ?_
      refine E.QG.code ?_
      refine E.CG.seq ?_
      refine E.CG.list ?_
      refine E.GL.run rfl rfl rfl (E.Runs.loads (cs := [.int .i64 H.teams, .int .i64 H.walk, .int .i64 H.early, .int .i64 H.foyer, .int .i64 H.dl, .int .i64 H.dh, .int .i64 H.cl, .int .i64 H.ch]) rfl rfl hu25 rfl info25s (blk_cells b3)) ?_
      refine E.GL.run rfl rfl rfl (E.Runs.move rfl rfl) ?_
      refine E.GL.st rfl rfl rfl (E.ST.call rfl ent23 (E.evc rfl (E.evc rfl E.evn)) ((late_row H l A1 c1 _ h18 (Kd.C_below hr L) hc).mono ?_))
      rintro e w37 ⟨rfl, l37⟩
      refine ⟨_, rfl, ?_⟩
      replace b3 := blk_below b3 l37
      replace b5 := blk_below b5 l37
      replace L := below_step L l37
      replace lm := below_step lm l37
      refine E.GL.run rfl rfl rfl (E.Runs.move rfl rfl) ?_
      refine E.GL.run rfl rfl rfl (E.Runs.extract rfl rfl rfl) ?_
      refine E.GL.run rfl rfl rfl (E.Runs.extract rfl rfl rfl) ?_
      refine E.GL.run rfl rfl rfl (E.Runs.extract rfl rfl rfl) ?_
      refine E.GL.run rfl rfl rfl (E.Runs.assign rfl rfl) ?_
      refine E.GL.run rfl rfl rfl (E.Runs.assign rfl rfl) ?_
      refine E.GL.run rfl rfl rfl (E.Runs.assign rfl rfl) ?_
      refine E.GL.done ?_
      refine E.QG.code ?_
      refine E.CG.seq ?_
      refine E.CG.seq ?_
      refine E.CG.list ?_
      refine E.GL.run rfl rfl rfl (E.Runs.move rfl rfl) ?_
      refine E.GL.run rfl rfl rfl (E.Runs.neq rfl rfl rfl (E.ne_f rfl)) ?_
      refine E.GL.run rfl rfl rfl (E.Runs.move rfl rfl) ?_
      refine E.GL.run rfl rfl rfl (E.Runs.move rfl rfl) ?_
      refine E.GL.run rfl rfl rfl (E.Runs.neq rfl rfl rfl (E.ne_f rfl)) ?_
      refine E.GL.run rfl rfl rfl (E.Runs.pick_f rfl rfl rfl) ?_
      refine E.GL.run rfl rfl rfl (E.Runs.move rfl rfl) ?_
      refine E.GL.run rfl rfl rfl (E.Runs.move rfl rfl) ?_
      refine E.GL.run rfl rfl rfl (E.Runs.len rfl rfl hu29) ?_
      refine E.GL.run rfl rfl rfl (E.Runs.move rfl rfl) ?_
      refine E.GL.run rfl rfl rfl (E.Runs.len rfl rfl hu26) ?_
      refine E.GL.run rfl rfl rfl (E.Runs.neq rfl rfl rfl (E.ne_f rfl)) ?_
      refine E.GL.run rfl rfl rfl (E.Runs.pick_f rfl rfl rfl) ?_
      refine E.GL.run rfl rfl rfl (E.Runs.move rfl rfl) ?_
      refine E.GL.run rfl rfl rfl (E.Runs.move rfl rfl) ?_
      refine E.GL.run rfl rfl rfl (E.Runs.lss rfl rfl rfl (decide_eq_false (by have := LI.lo; omega))) ?_
      refine E.GL.run rfl rfl rfl (E.Runs.pick_f rfl rfl rfl) ?_
      refine E.GL.run rfl rfl rfl (E.Runs.move rfl rfl) ?_
      refine E.GL.run rfl rfl rfl (E.Runs.move rfl rfl) ?_
      refine E.GL.run rfl rfl rfl (E.Runs.move rfl rfl) ?_
      refine E.GL.run rfl rfl rfl (E.Runs.len rfl rfl hu26) ?_
      refine E.GL.run rfl rfl rfl (E.Runs.geq rfl rfl rfl (decide_eq_false (by have := LI.hi; have := LI.lo; omega))) ?_
      refine E.GL.run rfl rfl rfl (E.Runs.pick_f rfl rfl rfl) ?_
      refine E.GL.run rfl rfl rfl (E.Runs.move rfl rfl) ?_
      refine E.GL.run rfl rfl rfl (E.Runs.move rfl rfl) ?_
      refine E.GL.run rfl rfl rfl (E.Runs.eql rfl rfl rfl hb66) ?_
      refine E.GL.run rfl rfl rfl (E.Runs.move rfl rfl) ?_
      refine E.GL.run rfl rfl rfl (E.Runs.eql rfl rfl rfl hb68) ?_
      refine E.GL.run rfl rfl rfl (E.Runs.neqv rfl rfl rfl rfl (fun _ _ _ => rfl) (bool_equal b0 b0) (show (!(b0 == b0)) = false by cases b0 <;> rfl)) ?_
      refine E.GL.run rfl rfl rfl (E.Runs.pick_f rfl rfl rfl) ?_
      refine E.GL.run rfl rfl rfl (E.Runs.move rfl rfl) ?_
      refine E.GL.run rfl rfl rfl (E.Runs.move rfl rfl) ?_
      refine E.GL.run rfl rfl rfl (E.Runs.lss rfl rfl rfl (decide_eq_false (by have := LI.by0; omega))) ?_
      refine E.GL.run rfl rfl rfl (E.Runs.pick_f rfl rfl rfl) ?_
      refine E.GL.done ?_
      refine E.QG.code ?_
      refine E.CG.cond_f rfl ?_
      refine E.CG.skip ?_
      refine E.QG.code ?_
      refine E.CG.seq ?_
      refine E.CG.list ?_
      refine E.GL.run rfl rfl rfl (E.Runs.loads (cs := [.int .i64 H.teams, .int .i64 H.walk, .int .i64 H.early, .int .i64 H.foyer, .int .i64 H.dl, .int .i64 H.dh, .int .i64 H.cl, .int .i64 H.ch]) rfl rfl hu25 rfl info25s (blk_cells b3)) ?_
      refine E.GL.run rfl rfl rfl (E.Runs.move rfl rfl) ?_
      refine E.GL.run rfl rfl rfl (E.Runs.loads (cs := [.slice Ar rs.length cr, .slice Ac cs.length cc, .int .i64 ra]) rfl rfl hu49 rfl info49s (blk_cells b5)) ?_
      refine E.GL.st rfl rfl rfl (E.ST.call rfl ent24 (E.evc rfl (E.evc rfl (E.evc rfl E.evn))) ((run_row' H l rs cs ra A1 Ar Ac c1 cr cc _ (by omega) (rtC h18.1 h24.2.2.1) (itC h18 h24) h24.1 h24.2.1 (Kd.C_below hr L) hc (Kd.C_below hR L) (Kd.C_below hC L)).mono ?_))
      rintro e w78 ⟨Ae, ce, rfl, ke, re, l78⟩
      refine ⟨_, rfl, ?_⟩
      replace b3 := blk_below b3 l78
      replace b5 := blk_below b5 l78
      replace L := below_step L l78
      replace lm := below_step lm l78
      refine E.GL.run rfl rfl rfl (E.Runs.assign rfl rfl) ?_
      refine E.GL.done ?_
      refine E.QG.code ?_
      refine E.CG.seq ?_
      refine E.CG.seq ?_
      refine E.CG.list ?_
      refine E.GL.run rfl rfl rfl (E.Runs.assign rfl rfl) ?_
      refine E.GL.done ?_
      refine E.QG.code ?_
      refine E.CG.block ?_
      have s9_b3 := b3
      have s9_b5 := b5
      have s9_L := L
      have s9_lm := lm
      refine E.CG.loop (fun (i : Nat) => [(1, .slice A1 l.length c1), (7, .slice Am l.length cm), (9, .int .i64 (lateT l (lateDay H l) 0).1), (10, .int .i64 (lateT l (lateDay H l) 0).2), (12, .slice Ae l.length ce), (13, .int .i64 i)]) (fun i w' => i ≤ l.length ∧ Below w78.heap.size w78 w') (fun i => l.length - i) 0 (E.subc rfl (E.subc rfl (E.subc rfl (E.subc rfl (E.subc rfl (E.subc rfl (E.subn))))))) ⟨Nat.zero_le _, Below.refl _ _⟩ ?_
      rintro i w9 ⟨hi, lq⟩
      replace L := below_step L lq
      replace lm := below_step lm lq
      refine E.CG.seq ?_
      refine E.CG.seq ?_
      refine E.CG.list ?_
      refine E.GL.run rfl rfl rfl (E.Runs.move rfl rfl) ?_
      refine E.GL.run rfl rfl rfl (E.Runs.move rfl rfl) ?_
      refine E.GL.run rfl rfl rfl (E.Runs.len rfl rfl hu26) ?_
      refine E.GL.cmp rfl rfl rfl (fun _ h => (E.Runs.lss rfl rfl rfl h)) (fun h82 => ?_) (fun h82 => ?_)
      · have hlt : i < l.length := by omega
        obtain ⟨s, hs⟩ : ∃ s, l[i]? = some s := ⟨_, List.getElem?_eq_getElem hlt⟩
        obtain ⟨r, hrr⟩ : ∃ r, (dayT (⟨ra, H.walk, H.early⟩ : Rt) (items l rs cs))[i]? = some r := ⟨_, List.getElem?_eq_getElem (by rw [dayT_length, items_length l rs cs h24.1 h24.2.1]; exact hlt)⟩
        obtain ⟨t, u, TO⟩ := told h18.1 (valid_slots h18) hs
        obtain ⟨P1, P2⟩ := case_between h18 h24 TO.te hrr TO.tl
        have hu : (lateDay H l)[i]? = some u := by rw [lateDay, allL_is h18.1 (valid_slots h18)]; exact TO.tl
        obtain ⟨w1, w2⟩ := LI.at_ i s u hs hu
        have bd := late_bound h18 hs hu
        have rb : s.f1 ≤ r.start ∧ r.start ≤ u.start := by
          obtain ⟨a, ha⟩ : ∃ a, rs[i]? = some a := ⟨_, List.getElem?_eq_getElem (by have := h24.1; omega)⟩
          obtain ⟨b, hb⟩ : ∃ b, cs[i]? = some b := ⟨_, List.getElem?_eq_getElem (by have := h24.2.1; omega)⟩
          exact ⟨(dayT_facts (rtC h18.1 h24.2.2.1) (itC h18 h24) (items_get l rs cs i s a b hs ha hb) hrr).bs, P2.s⟩
        obtain ⟨ad, eA, S⟩ := slot_at hr hs
        obtain ⟨am, eM, M⟩ := mom_at km TO hlt
        obtain ⟨ae, eT, T⟩ := tm_at re hrr
        subst eA eM eT
        refine E.GL.done ?_
        refine E.QG.code ?_
        refine E.CG.cond_t rfl ?_
        refine E.CG.skip ?_
        refine E.QG.code ?_
        refine E.CG.seq ?_
        refine E.CG.block ?_
        refine E.CG.seq ?_
        refine E.CG.list ?_
        refine E.GL.run rfl rfl rfl (E.Runs.move rfl rfl) ?_
        refine E.GL.run rfl rfl rfl (E.Runs.move rfl rfl) ?_
        refine E.GL.run rfl rfl rfl (E.Runs.indexAddrA rfl rfl rfl hu53 (by assumption) (by assumption) (by assumption) (by first | rfl | assumption) rfl) ?_
        refine E.GL.run rfl rfl rfl (E.Runs.loads (cs := [.int .i64 r.enter, .int .i64 r.seated, .int .i64 r.start, .int .i64 r.empty, .int .i64 r.ready]) rfl rfl hu56 rfl info56s (E.cellsB lq T.cells)) ?_
        refine E.GL.st rfl rfl rfl (E.ST.alloc rfl info56z fun g14 w14 e14 b14 l14 => ?_)
        have h14_L : w.heap.size ≤ g14 := by rw [e14]; exact L.size
        have h14_lm : w31.heap.size ≤ g14 := by rw [e14]; exact lm.size
        have h14_lq : w78.heap.size ≤ g14 := by rw [e14]; exact lq.size
        replace L := below_step L l14
        replace lm := below_step lm l14
        replace lq := below_step lq l14
        refine E.GL.store_whole rfl rfl rfl rfl rfl b14 rfl info56s (five_one _ _ _ _ _) fun wS11_5 c14 lS11_5 => ?_
        replace L := E.below_own L h14_L lS11_5
        replace lm := E.below_own lm h14_lm lS11_5
        replace lq := E.below_own lq h14_lq lS11_5
        replace b14 := c14
        clear c14
        refine E.GL.done ?_
        refine E.QG.code ?_
        refine E.CG.seq ?_
        refine E.CG.seq ?_
        refine E.CG.heldH (none) (by kernel_rfl) fun v12 lD hh => ?_
        replace b14 := blk_below b14 lD
        replace L := below_step L lD
        replace lm := below_step lm lD
        replace lq := below_step lq lD
        clear lD
        have s_b14 := b14
        have s_L := L
        have s_lm := lm
        have s_lq := lq
        refine E.GH.take (i := 0) rfl (by kernel_rfl) (by kernel_rfl) (by kernel_rfl) (by intro c a d v w h; cases d <;> exact h) rfl rfl rfl (fun w' hS => (E.Runs.move rfl rfl)) ?_
        refine E.GH.take (i := 1) rfl (by kernel_rfl) (by kernel_rfl) (by kernel_rfl) (by intro c a d v w h; cases d <;> exact h) rfl rfl rfl (fun w' hS => (E.Runs.move rfl rfl)) ?_
        refine E.GH.take (i := 2) rfl (by kernel_rfl) (by kernel_rfl) (by kernel_rfl) (by intro c a d v w h; cases d <;> exact h) rfl rfl rfl (fun w' hS => (E.Runs.indexAddrA rfl rfl rfl hu29 (by assumption) (by assumption) (by assumption) (by first | rfl | assumption) rfl)) ?_
        refine E.GH.take (i := 3) rfl (by kernel_rfl) (by kernel_rfl) (by kernel_rfl) (by intro c a d v w h; cases d <;> exact h) rfl rfl rfl (fun w' hS => (E.Runs.fieldAddr rfl rfl hu34 rfl (by assumption) rfl)) ?_
        refine E.GH.take (i := 4) rfl (by kernel_rfl) (by kernel_rfl) (by kernel_rfl) (by intro c a d v w h; cases d <;> exact h) rfl rfl rfl (fun w' hS => (E.Runs.loads (cs := [.int .i64 t.enter, .int .i64 u.enter]) rfl rfl hu23 rfl info23s (E.cellsB (below_step s_lm (E.belowG hS)) M.sp0))) ?_
        refine E.GH.take (i := 5) rfl (by kernel_rfl) (by kernel_rfl) (by kernel_rfl) (by intro c a d v w h; cases d <;> exact h) rfl rfl rfl (fun w' hS => (E.Runs.fieldAddr rfl rfl hu56 rfl (by assumption) rfl)) ?_
        refine E.GH.take (i := 6) rfl (by kernel_rfl) (by kernel_rfl) (by kernel_rfl) (by intro c a d v w h; cases d <;> exact h) rfl rfl rfl (fun w' hS => (E.Runs.load rfl rfl hu3 (by first | exact E.keeps hS (E.blkc (by assumption) rfl) (by first | exact E.nen | exact E.nes (by assumption) | exact E.nes (Ne.symm (by assumption))) | exact pw_cell_below (below_step s_L (E.belowG hS)) (by assumption) | exact pw_cell_below (below_step s_L (E.belowG hS)) S.c0 | exact pw_cell_below (below_step s_L (E.belowG hS)) S.c1 | exact pw_cell_below (below_step s_L (E.belowG hS)) S.c2 | exact pw_cell_below (below_step s_L (E.belowG hS)) S.c3 | exact pw_cell_below (below_step s_L (E.belowG hS)) S.c4 | exact pw_cell_below (below_step s_L (E.belowG hS)) S.c5 | exact pw_cell_below (below_step s_lm (E.belowG hS)) (by assumption) | exact pw_cell_below (below_step s_lm (E.belowG hS)) M.c0 | exact pw_cell_below (below_step s_lm (E.belowG hS)) M.c1 | exact pw_cell_below (below_step s_lm (E.belowG hS)) M.c2 | exact pw_cell_below (below_step s_lm (E.belowG hS)) M.c3 | exact pw_cell_below (below_step s_lm (E.belowG hS)) M.c4 | exact pw_cell_below (below_step s_lm (E.belowG hS)) M.c5 | exact pw_cell_below (below_step s_lm (E.belowG hS)) M.c6 | exact pw_cell_below (below_step s_lm (E.belowG hS)) M.c7 | exact pw_cell_below (below_step s_lm (E.belowG hS)) M.c8 | exact pw_cell_below (below_step s_lm (E.belowG hS)) M.c9 | exact pw_cell_below (below_step s_lq (E.belowG hS)) (by assumption) | exact pw_cell_below (below_step s_lq (E.belowG hS)) T.c0 | exact pw_cell_below (below_step s_lq (E.belowG hS)) T.c1 | exact pw_cell_below (below_step s_lq (E.belowG hS)) T.c2 | exact pw_cell_below (below_step s_lq (E.belowG hS)) T.c3 | exact pw_cell_below (below_step s_lq (E.belowG hS)) T.c4))) ?_
        refine E.GH.one (i := 7) (by kernel_rfl) rfl ?_
        refine E.GO.st rfl rfl rfl (E.ST.call rfl ent25 (E.evc rfl (E.evc rfl E.evn)) ((in_row t.enter u.enter r.enter true (iff_of_true rfl ⟨P1.e, P2.e⟩) _).mono ?_))
        rintro e w96 ⟨rfl, l96⟩
        refine ⟨_, rfl, hh.trans (E.gbB l96), ?_⟩
        replace hh := hh.trans (E.gbB l96)
        replace b14 := blk_below b14 l96
        replace L := below_step L l96
        replace lm := below_step lm l96
        replace lq := below_step lq l96
        refine E.GH.take (i := 8) rfl (by kernel_rfl) (by kernel_rfl) (by kernel_rfl) (by intro c a d v w h; cases d <;> exact h) rfl rfl rfl (fun w' hS => (E.Runs.not rfl rfl)) ?_
        refine E.GH.take (i := 9) rfl (by kernel_rfl) (by kernel_rfl) (by kernel_rfl) (by intro c a d v w h; cases d <;> exact h) rfl rfl rfl (fun w' hS => (E.Runs.move rfl rfl)) ?_
        refine E.GH.take (i := 10) rfl (by kernel_rfl) (by kernel_rfl) (by kernel_rfl) (by intro c a d v w h; cases d <;> exact h) rfl rfl rfl (fun w' hS => (E.Runs.move rfl rfl)) ?_
        refine E.GH.take (i := 11) rfl (by kernel_rfl) (by kernel_rfl) (by kernel_rfl) (by intro c a d v w h; cases d <;> exact h) rfl rfl rfl (fun w' hS => (E.Runs.move rfl rfl)) ?_
        refine E.GH.take (i := 12) rfl (by kernel_rfl) (by kernel_rfl) (by kernel_rfl) (by intro c a d v w h; cases d <;> exact h) rfl rfl rfl (fun w' hS => (E.Runs.indexAddrA rfl rfl rfl hu29 (by assumption) (by assumption) (by assumption) (by first | rfl | assumption) rfl)) ?_
        refine E.GH.take (i := 13) rfl (by kernel_rfl) (by kernel_rfl) (by kernel_rfl) (by intro c a d v w h; cases d <;> exact h) rfl rfl rfl (fun w' hS => (E.Runs.fieldAddr rfl rfl hu34 rfl (by assumption) rfl)) ?_
        refine E.GH.take (i := 14) rfl (by kernel_rfl) (by kernel_rfl) (by kernel_rfl) (by intro c a d v w h; cases d <;> exact h) rfl rfl rfl (fun w' hS => (E.Runs.loads (cs := [.int .i64 t.seated, .int .i64 u.seated]) rfl rfl hu23 rfl info23s (E.cellsB (below_step s_lm (E.belowG hS)) M.sp1))) ?_
        refine E.GH.take (i := 15) rfl (by kernel_rfl) (by kernel_rfl) (by kernel_rfl) (by intro c a d v w h; cases d <;> exact h) rfl rfl rfl (fun w' hS => (E.Runs.fieldAddr rfl rfl hu56 rfl (by assumption) rfl)) ?_
        refine E.GH.take (i := 16) rfl (by kernel_rfl) (by kernel_rfl) (by kernel_rfl) (by intro c a d v w h; cases d <;> exact h) rfl rfl rfl (fun w' hS => (E.Runs.load rfl rfl hu3 (by first | exact E.keeps hS (E.blkc (by assumption) rfl) (by first | exact E.nen | exact E.nes (by assumption) | exact E.nes (Ne.symm (by assumption))) | exact pw_cell_below (below_step s_L (E.belowG hS)) (by assumption) | exact pw_cell_below (below_step s_L (E.belowG hS)) S.c0 | exact pw_cell_below (below_step s_L (E.belowG hS)) S.c1 | exact pw_cell_below (below_step s_L (E.belowG hS)) S.c2 | exact pw_cell_below (below_step s_L (E.belowG hS)) S.c3 | exact pw_cell_below (below_step s_L (E.belowG hS)) S.c4 | exact pw_cell_below (below_step s_L (E.belowG hS)) S.c5 | exact pw_cell_below (below_step s_lm (E.belowG hS)) (by assumption) | exact pw_cell_below (below_step s_lm (E.belowG hS)) M.c0 | exact pw_cell_below (below_step s_lm (E.belowG hS)) M.c1 | exact pw_cell_below (below_step s_lm (E.belowG hS)) M.c2 | exact pw_cell_below (below_step s_lm (E.belowG hS)) M.c3 | exact pw_cell_below (below_step s_lm (E.belowG hS)) M.c4 | exact pw_cell_below (below_step s_lm (E.belowG hS)) M.c5 | exact pw_cell_below (below_step s_lm (E.belowG hS)) M.c6 | exact pw_cell_below (below_step s_lm (E.belowG hS)) M.c7 | exact pw_cell_below (below_step s_lm (E.belowG hS)) M.c8 | exact pw_cell_below (below_step s_lm (E.belowG hS)) M.c9 | exact pw_cell_below (below_step s_lq (E.belowG hS)) (by assumption) | exact pw_cell_below (below_step s_lq (E.belowG hS)) T.c0 | exact pw_cell_below (below_step s_lq (E.belowG hS)) T.c1 | exact pw_cell_below (below_step s_lq (E.belowG hS)) T.c2 | exact pw_cell_below (below_step s_lq (E.belowG hS)) T.c3 | exact pw_cell_below (below_step s_lq (E.belowG hS)) T.c4))) ?_
        refine E.GH.one (i := 17) (by kernel_rfl) rfl ?_
        refine E.GO.st rfl rfl rfl (E.ST.call rfl ent25 (E.evc rfl (E.evc rfl E.evn)) ((in_row t.seated u.seated r.seated true (iff_of_true rfl ⟨P1.d, P2.d⟩) _).mono ?_))
        rintro e w106 ⟨rfl, l106⟩
        refine ⟨_, rfl, hh.trans (E.gbB l106), ?_⟩
        replace hh := hh.trans (E.gbB l106)
        replace b14 := blk_below b14 l106
        replace L := below_step L l106
        replace lm := below_step lm l106
        replace lq := below_step lq l106
        refine E.GH.take (i := 18) rfl (by kernel_rfl) (by kernel_rfl) (by kernel_rfl) (by intro c a d v w h; cases d <;> exact h) rfl rfl rfl (fun w' hS => (E.Runs.not rfl rfl)) ?_
        refine E.GH.take (i := 19) rfl (by kernel_rfl) (by kernel_rfl) (by kernel_rfl) (by intro c a d v w h; cases d <;> exact h) rfl rfl rfl (fun w' hS => (E.Runs.pick_f rfl rfl rfl)) ?_
        refine E.GH.take (i := 20) rfl (by kernel_rfl) (by kernel_rfl) (by kernel_rfl) (by intro c a d v w h; cases d <;> exact h) rfl rfl rfl (fun w' hS => (E.Runs.move rfl rfl)) ?_
        refine E.GH.take (i := 21) rfl (by kernel_rfl) (by kernel_rfl) (by kernel_rfl) (by intro c a d v w h; cases d <;> exact h) rfl rfl rfl (fun w' hS => (E.Runs.move rfl rfl)) ?_
        refine E.GH.take (i := 22) rfl (by kernel_rfl) (by kernel_rfl) (by kernel_rfl) (by intro c a d v w h; cases d <;> exact h) rfl rfl rfl (fun w' hS => (E.Runs.move rfl rfl)) ?_
        refine E.GH.take (i := 23) rfl (by kernel_rfl) (by kernel_rfl) (by kernel_rfl) (by intro c a d v w h; cases d <;> exact h) rfl rfl rfl (fun w' hS => (E.Runs.indexAddrA rfl rfl rfl hu29 (by assumption) (by assumption) (by assumption) (by first | rfl | assumption) rfl)) ?_
        refine E.GH.take (i := 24) rfl (by kernel_rfl) (by kernel_rfl) (by kernel_rfl) (by intro c a d v w h; cases d <;> exact h) rfl rfl rfl (fun w' hS => (E.Runs.fieldAddr rfl rfl hu34 rfl (by assumption) rfl)) ?_
        refine E.GH.take (i := 25) rfl (by kernel_rfl) (by kernel_rfl) (by kernel_rfl) (by intro c a d v w h; cases d <;> exact h) rfl rfl rfl (fun w' hS => (E.Runs.loads (cs := [.int .i64 t.start, .int .i64 u.start]) rfl rfl hu23 rfl info23s (E.cellsB (below_step s_lm (E.belowG hS)) M.sp2))) ?_
        refine E.GH.take (i := 26) rfl (by kernel_rfl) (by kernel_rfl) (by kernel_rfl) (by intro c a d v w h; cases d <;> exact h) rfl rfl rfl (fun w' hS => (E.Runs.fieldAddr rfl rfl hu56 rfl (by assumption) rfl)) ?_
        refine E.GH.take (i := 27) rfl (by kernel_rfl) (by kernel_rfl) (by kernel_rfl) (by intro c a d v w h; cases d <;> exact h) rfl rfl rfl (fun w' hS => (E.Runs.load rfl rfl hu3 (by first | exact E.keeps hS (E.blkc (by assumption) rfl) (by first | exact E.nen | exact E.nes (by assumption) | exact E.nes (Ne.symm (by assumption))) | exact pw_cell_below (below_step s_L (E.belowG hS)) (by assumption) | exact pw_cell_below (below_step s_L (E.belowG hS)) S.c0 | exact pw_cell_below (below_step s_L (E.belowG hS)) S.c1 | exact pw_cell_below (below_step s_L (E.belowG hS)) S.c2 | exact pw_cell_below (below_step s_L (E.belowG hS)) S.c3 | exact pw_cell_below (below_step s_L (E.belowG hS)) S.c4 | exact pw_cell_below (below_step s_L (E.belowG hS)) S.c5 | exact pw_cell_below (below_step s_lm (E.belowG hS)) (by assumption) | exact pw_cell_below (below_step s_lm (E.belowG hS)) M.c0 | exact pw_cell_below (below_step s_lm (E.belowG hS)) M.c1 | exact pw_cell_below (below_step s_lm (E.belowG hS)) M.c2 | exact pw_cell_below (below_step s_lm (E.belowG hS)) M.c3 | exact pw_cell_below (below_step s_lm (E.belowG hS)) M.c4 | exact pw_cell_below (below_step s_lm (E.belowG hS)) M.c5 | exact pw_cell_below (below_step s_lm (E.belowG hS)) M.c6 | exact pw_cell_below (below_step s_lm (E.belowG hS)) M.c7 | exact pw_cell_below (below_step s_lm (E.belowG hS)) M.c8 | exact pw_cell_below (below_step s_lm (E.belowG hS)) M.c9 | exact pw_cell_below (below_step s_lq (E.belowG hS)) (by assumption) | exact pw_cell_below (below_step s_lq (E.belowG hS)) T.c0 | exact pw_cell_below (below_step s_lq (E.belowG hS)) T.c1 | exact pw_cell_below (below_step s_lq (E.belowG hS)) T.c2 | exact pw_cell_below (below_step s_lq (E.belowG hS)) T.c3 | exact pw_cell_below (below_step s_lq (E.belowG hS)) T.c4))) ?_
        refine E.GH.one (i := 28) (by kernel_rfl) rfl ?_
        refine E.GO.st rfl rfl rfl (E.ST.call rfl ent25 (E.evc rfl (E.evc rfl E.evn)) ((in_row t.start u.start r.start true (iff_of_true rfl ⟨P1.s, P2.s⟩) _).mono ?_))
        rintro e w117 ⟨rfl, l117⟩
        refine ⟨_, rfl, hh.trans (E.gbB l117), ?_⟩
        replace hh := hh.trans (E.gbB l117)
        replace b14 := blk_below b14 l117
        replace L := below_step L l117
        replace lm := below_step lm l117
        replace lq := below_step lq l117
        refine E.GH.take (i := 29) rfl (by kernel_rfl) (by kernel_rfl) (by kernel_rfl) (by intro c a d v w h; cases d <;> exact h) rfl rfl rfl (fun w' hS => (E.Runs.not rfl rfl)) ?_
        refine E.GH.take (i := 30) rfl (by kernel_rfl) (by kernel_rfl) (by kernel_rfl) (by intro c a d v w h; cases d <;> exact h) rfl rfl rfl (fun w' hS => (E.Runs.pick_f rfl rfl rfl)) ?_
        refine E.GH.take (i := 31) rfl (by kernel_rfl) (by kernel_rfl) (by kernel_rfl) (by intro c a d v w h; cases d <;> exact h) rfl rfl rfl (fun w' hS => (E.Runs.move rfl rfl)) ?_
        refine E.GH.take (i := 32) rfl (by kernel_rfl) (by kernel_rfl) (by kernel_rfl) (by intro c a d v w h; cases d <;> exact h) rfl rfl rfl (fun w' hS => (E.Runs.move rfl rfl)) ?_
        refine E.GH.take (i := 33) rfl (by kernel_rfl) (by kernel_rfl) (by kernel_rfl) (by intro c a d v w h; cases d <;> exact h) rfl rfl rfl (fun w' hS => (E.Runs.move rfl rfl)) ?_
        refine E.GH.take (i := 34) rfl (by kernel_rfl) (by kernel_rfl) (by kernel_rfl) (by intro c a d v w h; cases d <;> exact h) rfl rfl rfl (fun w' hS => (E.Runs.indexAddrA rfl rfl rfl hu29 (by assumption) (by assumption) (by assumption) (by first | rfl | assumption) rfl)) ?_
        refine E.GH.take (i := 35) rfl (by kernel_rfl) (by kernel_rfl) (by kernel_rfl) (by intro c a d v w h; cases d <;> exact h) rfl rfl rfl (fun w' hS => (E.Runs.fieldAddr rfl rfl hu34 rfl (by assumption) rfl)) ?_
        refine E.GH.take (i := 36) rfl (by kernel_rfl) (by kernel_rfl) (by kernel_rfl) (by intro c a d v w h; cases d <;> exact h) rfl rfl rfl (fun w' hS => (E.Runs.loads (cs := [.int .i64 t.empty, .int .i64 u.empty]) rfl rfl hu23 rfl info23s (E.cellsB (below_step s_lm (E.belowG hS)) M.sp3))) ?_
        refine E.GH.take (i := 37) rfl (by kernel_rfl) (by kernel_rfl) (by kernel_rfl) (by intro c a d v w h; cases d <;> exact h) rfl rfl rfl (fun w' hS => (E.Runs.fieldAddr rfl rfl hu56 rfl (by assumption) rfl)) ?_
        refine E.GH.take (i := 38) rfl (by kernel_rfl) (by kernel_rfl) (by kernel_rfl) (by intro c a d v w h; cases d <;> exact h) rfl rfl rfl (fun w' hS => (E.Runs.load rfl rfl hu3 (by first | exact E.keeps hS (E.blkc (by assumption) rfl) (by first | exact E.nen | exact E.nes (by assumption) | exact E.nes (Ne.symm (by assumption))) | exact pw_cell_below (below_step s_L (E.belowG hS)) (by assumption) | exact pw_cell_below (below_step s_L (E.belowG hS)) S.c0 | exact pw_cell_below (below_step s_L (E.belowG hS)) S.c1 | exact pw_cell_below (below_step s_L (E.belowG hS)) S.c2 | exact pw_cell_below (below_step s_L (E.belowG hS)) S.c3 | exact pw_cell_below (below_step s_L (E.belowG hS)) S.c4 | exact pw_cell_below (below_step s_L (E.belowG hS)) S.c5 | exact pw_cell_below (below_step s_lm (E.belowG hS)) (by assumption) | exact pw_cell_below (below_step s_lm (E.belowG hS)) M.c0 | exact pw_cell_below (below_step s_lm (E.belowG hS)) M.c1 | exact pw_cell_below (below_step s_lm (E.belowG hS)) M.c2 | exact pw_cell_below (below_step s_lm (E.belowG hS)) M.c3 | exact pw_cell_below (below_step s_lm (E.belowG hS)) M.c4 | exact pw_cell_below (below_step s_lm (E.belowG hS)) M.c5 | exact pw_cell_below (below_step s_lm (E.belowG hS)) M.c6 | exact pw_cell_below (below_step s_lm (E.belowG hS)) M.c7 | exact pw_cell_below (below_step s_lm (E.belowG hS)) M.c8 | exact pw_cell_below (below_step s_lm (E.belowG hS)) M.c9 | exact pw_cell_below (below_step s_lq (E.belowG hS)) (by assumption) | exact pw_cell_below (below_step s_lq (E.belowG hS)) T.c0 | exact pw_cell_below (below_step s_lq (E.belowG hS)) T.c1 | exact pw_cell_below (below_step s_lq (E.belowG hS)) T.c2 | exact pw_cell_below (below_step s_lq (E.belowG hS)) T.c3 | exact pw_cell_below (below_step s_lq (E.belowG hS)) T.c4))) ?_
        refine E.GH.one (i := 39) (by kernel_rfl) rfl ?_
        refine E.GO.st rfl rfl rfl (E.ST.call rfl ent25 (E.evc rfl (E.evc rfl E.evn)) ((in_row t.empty u.empty r.empty true (iff_of_true rfl ⟨P1.m, P2.m⟩) _).mono ?_))
        rintro e w128 ⟨rfl, l128⟩
        refine ⟨_, rfl, hh.trans (E.gbB l128), ?_⟩
        replace hh := hh.trans (E.gbB l128)
        replace b14 := blk_below b14 l128
        replace L := below_step L l128
        replace lm := below_step lm l128
        replace lq := below_step lq l128
        refine E.GH.take (i := 40) rfl (by kernel_rfl) (by kernel_rfl) (by kernel_rfl) (by intro c a d v w h; cases d <;> exact h) rfl rfl rfl (fun w' hS => (E.Runs.not rfl rfl)) ?_
        refine E.GH.take (i := 41) rfl (by kernel_rfl) (by kernel_rfl) (by kernel_rfl) (by intro c a d v w h; cases d <;> exact h) rfl rfl rfl (fun w' hS => (E.Runs.pick_f rfl rfl rfl)) ?_
        refine E.GH.take (i := 42) rfl (by kernel_rfl) (by kernel_rfl) (by kernel_rfl) (by intro c a d v w h; cases d <;> exact h) rfl rfl rfl (fun w' hS => (E.Runs.move rfl rfl)) ?_
        refine E.GH.take (i := 43) rfl (by kernel_rfl) (by kernel_rfl) (by kernel_rfl) (by intro c a d v w h; cases d <;> exact h) rfl rfl rfl (fun w' hS => (E.Runs.move rfl rfl)) ?_
        refine E.GH.take (i := 44) rfl (by kernel_rfl) (by kernel_rfl) (by kernel_rfl) (by intro c a d v w h; cases d <;> exact h) rfl rfl rfl (fun w' hS => (E.Runs.move rfl rfl)) ?_
        refine E.GH.take (i := 45) rfl (by kernel_rfl) (by kernel_rfl) (by kernel_rfl) (by intro c a d v w h; cases d <;> exact h) rfl rfl rfl (fun w' hS => (E.Runs.indexAddrA rfl rfl rfl hu29 (by assumption) (by assumption) (by assumption) (by first | rfl | assumption) rfl)) ?_
        refine E.GH.take (i := 46) rfl (by kernel_rfl) (by kernel_rfl) (by kernel_rfl) (by intro c a d v w h; cases d <;> exact h) rfl rfl rfl (fun w' hS => (E.Runs.fieldAddr rfl rfl hu34 rfl (by assumption) rfl)) ?_
        refine E.GH.take (i := 47) rfl (by kernel_rfl) (by kernel_rfl) (by kernel_rfl) (by intro c a d v w h; cases d <;> exact h) rfl rfl rfl (fun w' hS => (E.Runs.loads (cs := [.int .i64 t.ready, .int .i64 u.ready]) rfl rfl hu23 rfl info23s (E.cellsB (below_step s_lm (E.belowG hS)) M.sp4))) ?_
        refine E.GH.take (i := 48) rfl (by kernel_rfl) (by kernel_rfl) (by kernel_rfl) (by intro c a d v w h; cases d <;> exact h) rfl rfl rfl (fun w' hS => (E.Runs.fieldAddr rfl rfl hu56 rfl (by assumption) rfl)) ?_
        refine E.GH.take (i := 49) rfl (by kernel_rfl) (by kernel_rfl) (by kernel_rfl) (by intro c a d v w h; cases d <;> exact h) rfl rfl rfl (fun w' hS => (E.Runs.load rfl rfl hu3 (by first | exact E.keeps hS (E.blkc (by assumption) rfl) (by first | exact E.nen | exact E.nes (by assumption) | exact E.nes (Ne.symm (by assumption))) | exact pw_cell_below (below_step s_L (E.belowG hS)) (by assumption) | exact pw_cell_below (below_step s_L (E.belowG hS)) S.c0 | exact pw_cell_below (below_step s_L (E.belowG hS)) S.c1 | exact pw_cell_below (below_step s_L (E.belowG hS)) S.c2 | exact pw_cell_below (below_step s_L (E.belowG hS)) S.c3 | exact pw_cell_below (below_step s_L (E.belowG hS)) S.c4 | exact pw_cell_below (below_step s_L (E.belowG hS)) S.c5 | exact pw_cell_below (below_step s_lm (E.belowG hS)) (by assumption) | exact pw_cell_below (below_step s_lm (E.belowG hS)) M.c0 | exact pw_cell_below (below_step s_lm (E.belowG hS)) M.c1 | exact pw_cell_below (below_step s_lm (E.belowG hS)) M.c2 | exact pw_cell_below (below_step s_lm (E.belowG hS)) M.c3 | exact pw_cell_below (below_step s_lm (E.belowG hS)) M.c4 | exact pw_cell_below (below_step s_lm (E.belowG hS)) M.c5 | exact pw_cell_below (below_step s_lm (E.belowG hS)) M.c6 | exact pw_cell_below (below_step s_lm (E.belowG hS)) M.c7 | exact pw_cell_below (below_step s_lm (E.belowG hS)) M.c8 | exact pw_cell_below (below_step s_lm (E.belowG hS)) M.c9 | exact pw_cell_below (below_step s_lq (E.belowG hS)) (by assumption) | exact pw_cell_below (below_step s_lq (E.belowG hS)) T.c0 | exact pw_cell_below (below_step s_lq (E.belowG hS)) T.c1 | exact pw_cell_below (below_step s_lq (E.belowG hS)) T.c2 | exact pw_cell_below (below_step s_lq (E.belowG hS)) T.c3 | exact pw_cell_below (below_step s_lq (E.belowG hS)) T.c4))) ?_
        refine E.GH.one (i := 50) (by kernel_rfl) rfl ?_
        refine E.GO.st rfl rfl rfl (E.ST.call rfl ent25 (E.evc rfl (E.evc rfl E.evn)) ((in_row t.ready u.ready r.ready true (iff_of_true rfl ⟨P1.r, P2.r⟩) _).mono ?_))
        rintro e w139 ⟨rfl, l139⟩
        refine ⟨_, rfl, hh.trans (E.gbB l139), ?_⟩
        replace hh := hh.trans (E.gbB l139)
        replace b14 := blk_below b14 l139
        replace L := below_step L l139
        replace lm := below_step lm l139
        replace lq := below_step lq l139
        refine E.GH.take (i := 51) rfl (by kernel_rfl) (by kernel_rfl) (by kernel_rfl) (by intro c a d v w h; cases d <;> exact h) rfl rfl rfl (fun w' hS => (E.Runs.not rfl rfl)) ?_
        refine E.GH.take (i := 52) rfl (by kernel_rfl) (by kernel_rfl) (by kernel_rfl) (by intro c a d v w h; cases d <;> exact h) rfl rfl rfl (fun w' hS => (E.Runs.pick_f rfl rfl rfl)) ?_
        refine E.GH.done (by kernel_rfl) ?_
        refine E.QG.code ?_
        refine E.CG.cond_f rfl ?_
        refine E.CG.skip ?_
        refine E.QG.code ?_
        refine E.CG.seq ?_
        refine E.CG.quietF (by kernel_rfl) rfl (by kernel_rfl) (by kernel_rfl) ?_
        refine E.GQ.run rfl rfl rfl (E.Runs.fieldAddr rfl rfl hu56 rfl (by assumption) rfl) ?_
        refine E.GQ.run rfl rfl rfl (E.Runs.load rfl rfl hu3 (by first | assumption | exact E.blkc (by assumption) rfl | exact pw_cell_below L (by assumption) | exact pw_cell_below lm (by assumption) | exact pw_cell_below lq (by assumption) | exact pw_cell_below L S.c0 | exact pw_cell_below L S.c1 | exact pw_cell_below L S.c2 | exact pw_cell_below L S.c3 | exact pw_cell_below L S.c4 | exact pw_cell_below L S.c5 | exact pw_cell_below lm M.c0 | exact pw_cell_below lm M.c1 | exact pw_cell_below lm M.c2 | exact pw_cell_below lm M.c3 | exact pw_cell_below lm M.c4 | exact pw_cell_below lm M.c5 | exact pw_cell_below lm M.c6 | exact pw_cell_below lm M.c7 | exact pw_cell_below lm M.c8 | exact pw_cell_below lm M.c9 | exact pw_cell_below lq T.c0 | exact pw_cell_below lq T.c1 | exact pw_cell_below lq T.c2 | exact pw_cell_below lq T.c3 | exact pw_cell_below lq T.c4)) ?_
        refine E.GQ.run rfl rfl rfl (E.Runs.move rfl rfl) ?_
        refine E.GQ.run rfl rfl rfl (E.Runs.move rfl rfl) ?_
        refine E.GQ.run rfl rfl rfl (E.Runs.indexAddrA rfl rfl rfl hu26 (by assumption) (by assumption) (by assumption) (by first | rfl | assumption) rfl) ?_
        refine E.GQ.run rfl rfl rfl (E.Runs.fieldAddr rfl rfl hu36 rfl (by assumption) rfl) ?_
        refine E.GQ.run rfl rfl rfl (E.Runs.load rfl rfl hu3 (by first | assumption | exact E.blkc (by assumption) rfl | exact pw_cell_below L (by assumption) | exact pw_cell_below lm (by assumption) | exact pw_cell_below lq (by assumption) | exact pw_cell_below L S.c0 | exact pw_cell_below L S.c1 | exact pw_cell_below L S.c2 | exact pw_cell_below L S.c3 | exact pw_cell_below L S.c4 | exact pw_cell_below L S.c5 | exact pw_cell_below lm M.c0 | exact pw_cell_below lm M.c1 | exact pw_cell_below lm M.c2 | exact pw_cell_below lm M.c3 | exact pw_cell_below lm M.c4 | exact pw_cell_below lm M.c5 | exact pw_cell_below lm M.c6 | exact pw_cell_below lm M.c7 | exact pw_cell_below lm M.c8 | exact pw_cell_below lm M.c9 | exact pw_cell_below lq T.c0 | exact pw_cell_below lq T.c1 | exact pw_cell_below lq T.c2 | exact pw_cell_below lq T.c3 | exact pw_cell_below lq T.c4)) ?_
        refine E.GQ.run rfl rfl rfl (E.Runs.sub rfl rfl rfl (IntWalk.i64_in _ (by omega))) ?_
        refine E.GQ.run rfl rfl rfl (E.Runs.assign rfl rfl) ?_
        refine E.GQ.doneB fun v14 lD => ?_
        replace b14 := blk_below b14 lD
        replace L := below_step L lD
        replace lm := below_step lm lD
        replace lq := below_step lq lD
        clear lD
        refine E.QG.code ?_
        refine E.CG.seq ?_
        refine E.CG.list ?_
        refine E.GL.run rfl rfl rfl (E.Runs.move rfl rfl) ?_
        refine E.GL.run rfl rfl rfl (E.Runs.lss rfl rfl rfl (decide_eq_false (by omega))) ?_
        refine E.GL.run rfl rfl rfl (E.Runs.move rfl rfl) ?_
        refine E.GL.run rfl rfl rfl (E.Runs.move rfl rfl) ?_
        refine E.GL.cmp rfl rfl rfl (fun _ h => (E.Runs.gtr rfl rfl rfl h)) (fun h154 => ?_) (fun h154 => ?_)
        · refine E.GL.run rfl rfl rfl (E.Runs.move rfl rfl) ?_
          refine E.GL.run rfl rfl rfl (E.Runs.move rfl rfl) ?_
          refine E.GL.run rfl rfl rfl (E.Runs.eql rfl rfl rfl (decide_eq_false (w1 (by omega)).1)) ?_
          refine E.GL.run rfl rfl rfl (E.Runs.move rfl rfl) ?_
          refine E.GL.run rfl rfl rfl (E.Runs.move rfl rfl) ?_
          refine E.GL.run rfl rfl rfl (E.Runs.move rfl rfl) ?_
          refine E.GL.run rfl rfl rfl (E.Runs.lss rfl rfl rfl (decide_eq_false (w1 (by omega)).2)) ?_
          refine E.GL.run rfl rfl rfl (E.Runs.pick_f rfl rfl rfl) ?_
          refine E.GL.run rfl rfl rfl (E.Runs.pick_t rfl rfl rfl) ?_
          refine E.GL.run rfl rfl rfl (E.Runs.pick_f rfl rfl rfl) ?_
          refine E.GL.run rfl rfl rfl (E.Runs.move rfl rfl) ?_
          refine E.GL.run rfl rfl rfl (E.Runs.move rfl rfl) ?_
          refine E.GL.run rfl rfl rfl (E.Runs.move rfl rfl) ?_
          refine E.GL.cmp rfl rfl rfl (fun _ h => (E.Runs.eql rfl rfl rfl h)) (fun h168 => ?_) (fun h168 => ?_)
          · refine E.GL.run rfl rfl rfl (E.Runs.move rfl rfl) ?_
            refine E.GL.run rfl rfl rfl (E.Runs.move rfl rfl) ?_
            refine E.GL.run rfl rfl rfl (E.Runs.move rfl rfl) ?_
            refine E.GL.run rfl rfl rfl (E.Runs.gtr rfl rfl rfl (decide_eq_false (by have := w2 h168; omega))) ?_
            refine E.GL.run rfl rfl rfl (E.Runs.pick_t rfl rfl rfl) ?_
            refine E.GL.run rfl rfl rfl (E.Runs.pick_f rfl rfl rfl) ?_
            refine E.GL.done ?_
            refine E.QG.code ?_
            refine E.CG.cond_f rfl ?_
            refine E.CG.skip ?_
            refine E.QG.block_normal ?_
            refine E.QG.code ?_
            refine E.CG.list ?_
            refine E.GL.run rfl rfl rfl (E.Runs.move rfl rfl) ?_
            refine E.GL.run rfl rfl rfl (E.Runs.add rfl rfl rfl (IntWalk.i64_in _ (by omega))) ?_
            refine E.GL.run rfl rfl rfl (E.Runs.assign rfl rfl) ?_
            refine E.GL.done ?_
            exact E.QG.round (i + 1) (E.subc rfl (E.subc rfl (E.subc rfl (E.subc rfl (E.subc rfl (E.subc rfl E.subn)))))) ⟨by omega, lq⟩ (by omega)
          · refine E.GL.run rfl rfl rfl (E.Runs.move rfl rfl) ?_
            refine E.GL.skip rfl rfl rfl ?_
            refine E.GL.skip rfl rfl rfl ?_
            refine E.GL.skip rfl rfl rfl ?_
            refine E.GL.run rfl rfl rfl (E.Runs.pick_f rfl rfl rfl) ?_
            refine E.GL.run rfl rfl rfl (E.Runs.pick_f rfl rfl rfl) ?_
            refine E.GL.done ?_
            refine E.QG.code ?_
            refine E.CG.cond_f rfl ?_
            refine E.CG.skip ?_
            refine E.QG.block_normal ?_
            refine E.QG.code ?_
            refine E.CG.list ?_
            refine E.GL.run rfl rfl rfl (E.Runs.move rfl rfl) ?_
            refine E.GL.run rfl rfl rfl (E.Runs.add rfl rfl rfl (IntWalk.i64_in _ (by omega))) ?_
            refine E.GL.run rfl rfl rfl (E.Runs.assign rfl rfl) ?_
            refine E.GL.done ?_
            exact E.QG.round (i + 1) (E.subc rfl (E.subc rfl (E.subc rfl (E.subc rfl (E.subc rfl (E.subc rfl E.subn)))))) ⟨by omega, lq⟩ (by omega)
        · refine E.GL.run rfl rfl rfl (E.Runs.move rfl rfl) ?_
          refine E.GL.skip rfl rfl rfl ?_
          refine E.GL.skip rfl rfl rfl ?_
          refine E.GL.skip rfl rfl rfl ?_
          refine E.GL.skip rfl rfl rfl ?_
          refine E.GL.skip rfl rfl rfl ?_
          refine E.GL.skip rfl rfl rfl ?_
          refine E.GL.skip rfl rfl rfl ?_
          refine E.GL.run rfl rfl rfl (E.Runs.pick_f rfl rfl rfl) ?_
          refine E.GL.run rfl rfl rfl (E.Runs.pick_f rfl rfl rfl) ?_
          refine E.GL.run rfl rfl rfl (E.Runs.move rfl rfl) ?_
          refine E.GL.run rfl rfl rfl (E.Runs.move rfl rfl) ?_
          refine E.GL.run rfl rfl rfl (E.Runs.move rfl rfl) ?_
          refine E.GL.cmp rfl rfl rfl (fun _ h => (E.Runs.eql rfl rfl rfl h)) (fun h168 => ?_) (fun h168 => ?_)
          · refine E.GL.run rfl rfl rfl (E.Runs.move rfl rfl) ?_
            refine E.GL.run rfl rfl rfl (E.Runs.move rfl rfl) ?_
            refine E.GL.run rfl rfl rfl (E.Runs.move rfl rfl) ?_
            refine E.GL.run rfl rfl rfl (E.Runs.gtr rfl rfl rfl (decide_eq_false (by have := w2 h168; omega))) ?_
            refine E.GL.run rfl rfl rfl (E.Runs.pick_t rfl rfl rfl) ?_
            refine E.GL.run rfl rfl rfl (E.Runs.pick_f rfl rfl rfl) ?_
            refine E.GL.done ?_
            refine E.QG.code ?_
            refine E.CG.cond_f rfl ?_
            refine E.CG.skip ?_
            refine E.QG.block_normal ?_
            refine E.QG.code ?_
            refine E.CG.list ?_
            refine E.GL.run rfl rfl rfl (E.Runs.move rfl rfl) ?_
            refine E.GL.run rfl rfl rfl (E.Runs.add rfl rfl rfl (IntWalk.i64_in _ (by omega))) ?_
            refine E.GL.run rfl rfl rfl (E.Runs.assign rfl rfl) ?_
            refine E.GL.done ?_
            exact E.QG.round (i + 1) (E.subc rfl (E.subc rfl (E.subc rfl (E.subc rfl (E.subc rfl (E.subc rfl E.subn)))))) ⟨by omega, lq⟩ (by omega)
          · refine E.GL.run rfl rfl rfl (E.Runs.move rfl rfl) ?_
            refine E.GL.skip rfl rfl rfl ?_
            refine E.GL.skip rfl rfl rfl ?_
            refine E.GL.skip rfl rfl rfl ?_
            refine E.GL.run rfl rfl rfl (E.Runs.pick_f rfl rfl rfl) ?_
            refine E.GL.run rfl rfl rfl (E.Runs.pick_f rfl rfl rfl) ?_
            refine E.GL.done ?_
            refine E.QG.code ?_
            refine E.CG.cond_f rfl ?_
            refine E.CG.skip ?_
            refine E.QG.block_normal ?_
            refine E.QG.code ?_
            refine E.CG.list ?_
            refine E.GL.run rfl rfl rfl (E.Runs.move rfl rfl) ?_
            refine E.GL.run rfl rfl rfl (E.Runs.add rfl rfl rfl (IntWalk.i64_in _ (by omega))) ?_
            refine E.GL.run rfl rfl rfl (E.Runs.assign rfl rfl) ?_
            refine E.GL.done ?_
            exact E.QG.round (i + 1) (E.subc rfl (E.subc rfl (E.subc rfl (E.subc rfl (E.subc rfl (E.subc rfl E.subn)))))) ⟨by omega, lq⟩ (by omega)
      · refine E.GL.done ?_
        refine E.QG.code ?_
        refine E.CG.cond_f rfl ?_
        refine E.CG.exit ?_
        refine E.QG.pass_exit ?_
        refine E.QG.pass_exit ?_
        refine E.QG.block_here ?_
        refine E.QG.code ?_
        refine E.CG.seq ?_
        refine E.CG.list ?_
        refine E.GL.st rfl rfl rfl (E.ST.call rfl ent14 E.evn ((works_calls _).mono ?_))
        rintro e w175 ⟨rfl, l175⟩
        refine ⟨_, rfl, ?_⟩
        replace L := below_step L l175
        replace lm := below_step lm l175
        refine E.GL.run rfl rfl rfl (E.Runs.assign rfl rfl) ?_
        refine E.GL.done ?_
        refine E.QG.code ?_
        refine E.CG.ret ?_
        exact E.QG.result rfl rfl ⟨rfl, L⟩
    · refine E.GL.st rfl rfl rfl (E.ST.call rfl ent22 (E.evc rfl (E.evc rfl (E.evc rfl E.evn))) ((case_row H l rs cs ra A1 Ar Ac c1 cr cc _ false (iff_of_false Bool.false_ne_true h24) (by omega) (Kd.C_below hr L) hc (Kd.C_below hR L) (Kd.C_below hC L)).mono ?_))
      rintro e w24 ⟨rfl, l24⟩
      refine ⟨_, rfl, ?_⟩
      replace b3 := blk_below b3 l24
      replace b5 := blk_below b5 l24
      replace L := below_step L l24
      refine E.GL.run rfl rfl rfl (E.Runs.not rfl rfl) ?_
      refine E.GL.run rfl rfl rfl (E.Runs.pick_f rfl rfl rfl) ?_
      refine E.GL.done ?_
      refine E.QG.code ?_
      refine E.CG.cond_t rfl ?_
      refine E.CG.seq ?_
      refine E.CG.list ?_
      refine E.GL.st rfl rfl rfl (E.ST.call rfl ent14 E.evn ((works_calls _).mono ?_))
      rintro e w27 ⟨rfl, l27⟩
      refine ⟨_, rfl, ?_⟩
      replace b3 := blk_below b3 l27
      replace b5 := blk_below b5 l27
      replace L := below_step L l27
      refine E.GL.run rfl rfl rfl (E.Runs.assign rfl rfl) ?_
      refine E.GL.done ?_
      refine E.QG.code ?_
      refine E.CG.ret ?_
      refine E.QG.pass_ret ?_
      exact E.QG.result rfl rfl ⟨rfl, L⟩
  · refine E.GL.st rfl rfl rfl (E.ST.call rfl ent13 (E.evc rfl (E.evc rfl E.evn)) ((valid_row H l A1 c1 _ false (iff_of_false Bool.false_ne_true h18) (Kd.C_below hr L) hc).mono ?_))
    rintro e w18 ⟨rfl, l18⟩
    refine ⟨_, rfl, ?_⟩
    replace b3 := blk_below b3 l18
    replace b5 := blk_below b5 l18
    replace L := below_step L l18
    refine E.GL.run rfl rfl rfl (E.Runs.not rfl rfl) ?_
    refine E.GL.run rfl rfl rfl (E.Runs.move rfl rfl) ?_
    refine E.GL.skip rfl rfl rfl ?_
    refine E.GL.skip rfl rfl rfl ?_
    refine E.GL.skip rfl rfl rfl ?_
    refine E.GL.skip rfl rfl rfl ?_
    refine E.GL.skip rfl rfl rfl ?_
    refine E.GL.run rfl rfl rfl (E.Runs.pick_t rfl rfl rfl) ?_
    refine E.GL.done ?_
    refine E.QG.code ?_
    refine E.CG.cond_t rfl ?_
    refine E.CG.seq ?_
    refine E.CG.list ?_
    refine E.GL.st rfl rfl rfl (E.ST.call rfl ent14 E.evn ((works_calls _).mono ?_))
    rintro e w27 ⟨rfl, l27⟩
    refine ⟨_, rfl, ?_⟩
    replace b3 := blk_below b3 l27
    replace b5 := blk_below b5 l27
    replace L := below_step L l27
    refine E.GL.run rfl rfl rfl (E.Runs.assign rfl rfl) ?_
    refine E.GL.done ?_
    refine E.QG.code ?_
    refine E.CG.ret ?_
    refine E.QG.pass_ret ?_
    exact E.QG.result rfl rfl ⟨rfl, L⟩

end Go.Proofs.Ythdbkhdiaehblaa.T
