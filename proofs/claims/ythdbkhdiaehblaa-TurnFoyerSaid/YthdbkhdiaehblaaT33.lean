/- TurnFoyer: as many wait as Waiting says, and the foyer holds them before the minute of Crowded; the walk. -/
import Derived.Test.YthdbkhdiaehblaaT32
import Derived.Test.YthdbkhdiaehblaaT30
namespace Go.Proofs.Ythdbkhdiaehblaa.T
open Go.RowKit Go.Proofs.YthdbkhdiaehblaaW.PrintWords Go.Proofs.YthdbkhdiaehblaaW.PrintMore
open Go.Proofs.Ythdbkhdiaehblaa.P
set_option linter.unusedVariables false
theorem mn_mono {a b c d : Int} (h : a ≤ c) (k : b ≤ d) : mn a b ≤ mn c d := by unfold mn; split <;> split <;> omega
theorem waitOne_mono {p q : Pc} {H : Hs} {s : S36} {t u : Tm} {m : Int} (hr : 0 ≤ q.ra) (hra : q.ra ≤ p.ra) (ht : t.enter ≤ u.enter) : waitOne p H s t m ≤ waitOne q H s u m := by
  unfold waitOne
  split
  · have h1 : q.ra * mx 0 (m - u.enter + 1) ≤ p.ra * mx 0 (m - t.enter + 1) := Int.mul_le_mul hra (by unfold mx; split <;> split <;> omega) (by unfold mx; split <;> omega) (by omega)
    have h2 := mn_mono (Int.le_refl s.f3) h1
    omega
  · exact Int.le_refl _
theorem waitSum_mono {p q : Pc} {H : Hs} {m : Int} (hr : 0 ≤ q.ra) (hra : q.ra ≤ p.ra) : ∀ (l : List S36) (ts us : List Tm), All2 PlLe ts us → waitSum p H m l ts ≤ waitSum q H m l us
  | [], _, _, _ => by simp [waitSum]
  | s :: l, [], [], _ => by simp [waitSum]
  | s :: l, t :: ts, u :: us, h => by
    have h1 := waitOne_mono (H := H) (s := s) (m := m) hr hra h.1.e
    have h2 := waitSum_mono hr hra l ts us h.2 (H := H) (m := m)
    simp only [waitSum]
    omega
/-- A later minute, at which nobody else has come: no more wait. -/
theorem waitSum_later {p : Pc} {H : Hs} {m m' : Int} (hr : 0 ≤ p.ra) (hm : m' ≤ m) : ∀ (l : List S36) (ts : List Tm), (∀ s ∈ l, 0 ≤ s.f3 ∧ s.f3 ≤ 1000) → (∀ s ∈ l, max 0 (s.f1 - H.early) ≤ m → max 0 (s.f1 - H.early) ≤ m') → waitSum p H m l ts ≤ waitSum p H m' l ts
  | [], _, _, _ => by simp [waitSum]
  | s :: l, [], _, _ => by simp [waitSum]
  | s :: l, t :: ts, hb, h => by
    have h2 := waitSum_later hr hm l ts (fun x hx => hb x (List.mem_cons_of_mem _ hx)) (fun x hx => h x (List.mem_cons_of_mem _ hx)) (H := H)
    have h0 := hb s List.mem_cons_self
    have h1 : waitOne p H s t m ≤ waitOne p H s t m' := by
      have hs := h s List.mem_cons_self
      by_cases hc : max 0 (s.f1 - H.early) ≤ m
      · unfold waitOne
        rw [if_pos hc, if_pos (hs hc)]
        have h3 : p.ra * mx 0 (m' - t.enter + 1) ≤ p.ra * mx 0 (m - t.enter + 1) := Int.mul_le_mul_of_nonneg_left (mx_mono (Int.le_refl _) (by omega)) hr
        have := mn_mono (Int.le_refl s.f3) h3
        omega
      · have := waitOne_b (H := H) (t := t) (m := m') h0.1 h0.2 hr
        unfold waitOne at this ⊢
        rw [if_neg hc]
        exact this.1
    simp only [waitSum]
    omega
theorem waitSum_none {p : Pc} {H : Hs} {m : Int} : ∀ (l : List S36) (ts : List Tm), (∀ s ∈ l, ¬ max 0 (s.f1 - H.early) ≤ m) → waitSum p H m l ts = 0
  | [], _, _ => by simp [waitSum]
  | s :: l, [], _ => by simp [waitSum]
  | s :: l, t :: ts, h => by
    have h1 := h s List.mem_cons_self
    simp only [waitSum, waitSum_none l ts (fun x hx => h x (List.mem_cons_of_mem _ hx)), waitOne, if_neg h1]
    rfl
/-- The last crowd that has come by a minute. -/
theorem last_come (f : S36 → Int) (m : Int) : ∀ (l : List S36), (∀ s ∈ l, ¬ f s ≤ m) ∨ ∃ z ∈ l, f z ≤ m ∧ ∀ s ∈ l, f s ≤ m → f s ≤ f z
  | [] => .inl (fun s h => by simp at h)
  | x :: l => by
    by_cases hx : f x ≤ m
    · rcases last_come f m l with h | ⟨z, hz, h1, h2⟩
      · refine .inr ⟨x, List.mem_cons_self, hx, fun s hs hm => ?_⟩
        rcases List.mem_cons.mp hs with rfl | hs
        · exact Int.le_refl _
        · exact absurd hm (h s hs)
      · by_cases hc : f z ≤ f x
        · refine .inr ⟨x, List.mem_cons_self, hx, fun s hs hm => ?_⟩
          rcases List.mem_cons.mp hs with rfl | hs
          · exact Int.le_refl _
          · exact Int.le_trans (h2 s hs hm) hc
        · refine .inr ⟨z, List.mem_cons_of_mem _ hz, h1, fun s hs hm => ?_⟩
          rcases List.mem_cons.mp hs with rfl | hs
          · omega
          · exact h2 s hs hm
    · rcases last_come f m l with h | ⟨z, hz, h1, h2⟩
      · refine .inl fun s hs => ?_
        rcases List.mem_cons.mp hs with rfl | hs
        · exact hx
        · exact h s hs
      · refine .inr ⟨z, List.mem_cons_of_mem _ hz, h1, fun s hs hm => ?_⟩
        rcases List.mem_cons.mp hs with rfl | hs
        · exact absurd hm hx
        · exact h2 s hs hm
theorem crowdT_spec (H : Hs) (L : List S36) : ∀ (l : List S36),
    (crowdT H L l = -1 ∧ ∀ s ∈ l, waitT (pcL H) H L (max 0 (s.f1 - H.early)) ≤ H.foyer) ∨
    (∃ (j : Nat) (s : S36), l[j]? = some s ∧ crowdT H L l = max 0 (s.f1 - H.early) ∧ H.foyer < waitT (pcL H) H L (max 0 (s.f1 - H.early)) ∧ ∀ (k : Nat) (z : S36), k < j → l[k]? = some z → waitT (pcL H) H L (max 0 (z.f1 - H.early)) ≤ H.foyer)
  | [] => .inl ⟨rfl, fun s h => by simp at h⟩
  | s :: l => by
    by_cases h : H.foyer < waitT (pcL H) H L (max 0 (s.f1 - H.early))
    · exact .inr ⟨0, s, rfl, by simp only [crowdT, if_pos h], h, fun k z hk => absurd hk (Nat.not_lt_zero _)⟩
    · have h0 : crowdT H L (s :: l) = crowdT H L l := by simp only [crowdT, if_neg h]
      rcases crowdT_spec H L l with ⟨h1, h2⟩ | ⟨j, z, h1, h2, h3, h4⟩
      · refine .inl ⟨h0.trans h1, fun x hx => ?_⟩
        rcases List.mem_cons.mp hx with rfl | hx
        · exact Int.not_lt.mp h
        · exact h2 x hx
      · refine .inr ⟨j + 1, z, by simpa using h1, h0.trans h2, h3, fun k x hk hx => ?_⟩
        rcases k with _ | k
        · cases hx; exact Int.not_lt.mp h
        · exact h4 k x (by omega) (by simpa using hx)
/-- The slots begin in order. -/
theorem valid_sorted {H : Hs} {l : List S36} (h : Valid H l) : ∀ (d i j : Nat) (s z : S36), i + d = j → l[i]? = some s → l[j]? = some z → s.f1 ≤ z.f1
  | 0, i, j, s, z, hd, hs, hz => by
    obtain rfl : i = j := by omega
    rw [hs] at hz
    cases hz
    exact Int.le_refl _
  | d + 1, i, j, s, z, hd, hs, hz => by
    have hj := (List.getElem?_eq_some_iff.1 hz).1
    obtain ⟨y, hy⟩ : ∃ y, l[j - 1]? = some y := ⟨_, List.getElem?_eq_getElem (by omega)⟩
    have h1 := valid_sorted h d i (j - 1) s y (by omega) hs hy
    have h2 := (h.2.2 j (Nat.zero_le _) hj).2.2.1 (fun e => by have := congrArg List.length e; rw [List.length_take, List.length_nil] at this; omega)
    rw [take_last (by omega) (by omega) hy] at h2
    obtain ⟨_, rfl⟩ := List.getElem?_eq_some_iff.1 hz
    omega
/-- What is claimed of the foyer. -/
structure FoyerIs (H : Hs) (l : List S36) : Prop where
  lo : crowdT H l l = -1 ∨ 0 ≤ crowdT H l l
  hi : crowdT H l l ≤ 9999
  before : ∀ m : Int, (crowdT H l l = -1 ∨ m < crowdT H l l) → waitT (pcL H) H l m ≤ H.foyer
  at_ : 0 ≤ crowdT H l l → H.foyer < waitT (pcL H) H l (crowdT H l l)
theorem foyer_is {H : Hs} {l : List S36} (h : Valid H l) : FoyerIs H l := by
  have hH := h.1
  have hb : ∀ s ∈ l, 0 ≤ s.f3 ∧ s.f3 ≤ 1000 := fun s hs => by
    obtain ⟨⟨k1, k2, k3, k4⟩, k5⟩ := valid_slots h s hs
    omega
  have h0 : 0 ≤ H.foyer := by unfold HouseOk at hH; omega
  have hra : 0 ≤ (pcL H).ra := by unfold HouseOk at hH; show 0 ≤ H.dl; omega
  have peak : ∀ m : Int, (∀ s ∈ l, max 0 (s.f1 - H.early) ≤ m → waitT (pcL H) H l (max 0 (s.f1 - H.early)) ≤ H.foyer) → waitT (pcL H) H l m ≤ H.foyer := by
    intro m hm
    rcases last_come (fun s => max 0 (s.f1 - H.early)) m l with hn | ⟨z, hz, h1, h2⟩
    · unfold waitT
      rw [waitSum_none l _ hn]
      exact h0
    · exact Int.le_trans (waitSum_later hra h1 l _ hb h2) (hm z hz h1)
  rcases crowdT_spec H l l with ⟨h1, h2⟩ | ⟨j, s, h1, h2, h3, h4⟩
  · exact ⟨.inl h1, by omega, fun m _ => peak m (fun s hs _ => h2 s hs), fun hh => by omega⟩
  · have SI := valid_slots h s (List.mem_of_getElem? h1)
    refine ⟨.inr (by omega), ?_, fun m hm => peak m (fun z hz hzm => ?_), fun _ => by rw [h2]; exact h3⟩
    · have := SI.2
      unfold HouseOk at hH
      omega
    · have hlt : max 0 (z.f1 - H.early) < max 0 (s.f1 - H.early) := by omega
      obtain ⟨k, hk⟩ := List.mem_iff_getElem?.mp hz
      refine h4 k z ?_ hk
      by_cases hkj : k < j
      · exact hkj
      · have := valid_sorted h (k - j) j k s z (by omega) h1 hk
        omega
/-- As many wait in a case as is told. -/
theorem case_waits {H : Hs} {l : List S36} {rs cs : List Int} {ra : Int} (h : Valid H l) (k : CaseOk H l rs cs ra) (m : Int) :
    waitT (pcE H) H l m ≤ waitSum (pcR ra) H m l (dayT (⟨ra, H.walk, H.early⟩ : Rt) (items l rs cs)) ∧ waitSum (pcR ra) H m l (dayT (⟨ra, H.walk, H.early⟩ : Rt) (items l rs cs)) ≤ waitT (pcL H) H l m := by
  have hl := items_length l rs cs k.1 k.2.1
  have hH := h.1
  have hk := k.2.2.1
  have b1 : 1 ≤ H.dl := by unfold HouseOk at hH; omega
  unfold waitT
  rw [allE_is h.1 (valid_slots h), allL_is h.1 (valid_slots h)]
  have lt : ∀ (i : Nat) (x : Tm), (dayT (⟨ra, H.walk, H.early⟩ : Rt) (items l rs cs))[i]? = some x → i < l.length := fun i x hx => by
    have := (List.getElem?_eq_some_iff.1 hx).1
    rw [dayT_length, hl] at this
    exact this
  refine ⟨waitSum_mono (show 0 ≤ ra by omega) (show ra ≤ H.dh by omega) l _ _ (all2_of (by rw [dayT_length, dayT_length, List.length_map, hl]) fun i x y hx hy => ?_), waitSum_mono (show 0 ≤ H.dl by omega) (show H.dl ≤ ra by omega) l _ _ (all2_of (by rw [dayT_length, dayT_length, List.length_map, hl]) fun i x y hx hy => ?_)⟩
  · obtain ⟨u, hu⟩ : ∃ u, (dayT (rtOf (pcL H) H) (l.map (itOf (pcL H))))[i]? = some u := ⟨_, List.getElem?_eq_getElem (by rw [dayT_length, List.length_map]; exact lt i y hy)⟩
    exact (case_between h k hx hy hu).1
  · obtain ⟨t, ht⟩ : ∃ t, (dayT (rtOf (pcE H) H) (l.map (itOf (pcE H))))[i]? = some t := ⟨_, List.getElem?_eq_getElem (by rw [dayT_length, List.length_map]; exact lt i x hx)⟩
    exact (case_between h k ht hx hy).2
theorem info62s : (Try.prog.info? 62).map (·.size) = some 4 := by kernel_rfl
theorem info23z : (Try.prog.info? 23).map (·.zero) = some (some (.agg #[(.int .i64 0), (.int .i64 0)])) := by kernel_rfl
theorem waits_row' (H : Hs) (l : List S36) (rs cs : List Int) (ra m : Int) (A1 Ar Ac : Option Addr) (c1 cr cc : Nat) (w : World) (hm : 0 ≤ m ∧ m ≤ 10000) (h : Valid H l) (k : CaseOk H l rs cs ra)
    (hr : Kd.C k36 w A1 l.length l) (hc : l.length ≤ c1) (hR : Kd.C (Kd.int .i64) w Ar rs.length rs) (hC : Kd.C (Kd.int .i64) w Ac cs.length cs) :
    Calls Try.prog 28 #[hv H, .slice A1 l.length c1, .agg #[.slice Ar rs.length cr, .slice Ac cs.length cc, .int .i64 ra], .int .i64 m] w fun e w' => e = .returned (.int .i64 (waitSum (pcR ra) H m l (dayT (⟨ra, H.walk, H.early⟩ : Rt) (items l rs cs)))) ∧ Below w.heap.size w w' := by
  rw [k.1, k.2.1]
  rw [k.1] at hR
  rw [k.2.1] at hC
  exact waits_row H l rs cs ra m A1 Ar Ac c1 cr cc w hm (by have := h.2.1; omega) (rtC h.1 k.2.2.1) (itC h k) hr hc hR hC
set_option maxRecDepth 100000 in
set_option maxHeartbeats 40000000 in

theorem foyer_calls (H : Hs) (l : List S36) (rs cs : List Int) (ra m : Int) (A1 Ar Ac : Option Addr) (c1 cr cc : Nat) (w : World)
    (hr : Kd.C k36 w A1 l.length l) (hc : l.length ≤ c1) (hR : Kd.C (Kd.int .i64) w Ar rs.length rs) (hC : Kd.C (Kd.int .i64) w Ac cs.length cs) :
    Calls Try.prog 8 #[hv H, .slice A1 l.length c1, .agg #[.slice Ar rs.length cr, .slice Ac cs.length cc, .int .i64 ra, .int .i64 m]] w fun e w' => e = .returned (.bool true) ∧ Below w.heap.size w w' := by
  have hu3 := Try.underlying3
  have hu23 := Try.underlying23
  have hu25 := Try.underlying25
  have hu26 := Try.underlying26
  have hu49 := Try.underlying49
  have hu62 := Try.underlying62
  obtain ⟨z3, o3⟩ := info_some info3s (by decide)
  obtain ⟨z23, o23⟩ := info_some info23s (by decide)
  obtain ⟨z49, o49⟩ := info_some info49s (by decide)
  refine E.enter (N := 114) Try.func8 rfl Try.ntmps8 (args := [hv H, .slice A1 l.length c1, .agg #[.slice Ar rs.length cr, .slice Ac cs.length cc, .int .i64 ra, .int .i64 m]]) (by simp) ?_
  have L := Below.refl w.heap.size w
  refine E.CG.seq ?_
  refine E.CG.list ?_
  refine E.GL.st rfl rfl rfl (E.ST.box rfl rfl fun g3 w3 e3 b3 l3 => ?_)
  have h3_L : w.heap.size ≤ g3 := by rw [e3]; exact L.size
  replace L := below_step L l3
  refine E.GL.st rfl rfl rfl (E.ST.box rfl rfl fun g5 w5 e5 b5 l5 => ?_)
  have h5_L : w.heap.size ≤ g5 := by rw [e5]; exact L.size
  have n5_b3 : g3 ≠ g5 := by have := blk_lt b3; omega
  replace b3 := blk_below b3 l5
  replace L := below_step L l5
  refine E.GL.run rfl rfl rfl (E.Runs.assign rfl rfl) ?_
  refine E.GL.done ?_
  refine E.QG.code ?_
  refine E.CG.seq ?_
  refine E.CG.seq ?_
  refine E.CG.list ?_
  refine E.GL.run rfl rfl rfl (E.Runs.loads (cs := [.int .i64 H.teams, .int .i64 H.walk, .int .i64 H.early, .int .i64 H.foyer, .int .i64 H.dl, .int .i64 H.dh, .int .i64 H.cl, .int .i64 H.ch]) rfl rfl hu25 rfl info25s (blk_cells b3)) ?_
  refine E.GL.run rfl rfl rfl (E.Runs.move rfl rfl) ?_
  by_cases h16 : Valid H l
  · have hn := h16.2.1
    have FI := foyer_is h16
    refine E.GL.st rfl rfl rfl (E.ST.call rfl ent13 (E.evc rfl (E.evc rfl E.evn)) ((valid_row H l A1 c1 _ true (iff_of_true rfl h16) (Kd.C_below hr L) hc).mono ?_))
    rintro e w16 ⟨rfl, l16⟩
    refine ⟨_, rfl, ?_⟩
    replace b3 := blk_below b3 l16
    replace b5 := blk_below b5 l16
    replace L := below_step L l16
    refine E.GL.run rfl rfl rfl (E.Runs.not rfl rfl) ?_
    refine E.GL.run rfl rfl rfl (E.Runs.move rfl rfl) ?_
    refine E.GL.run rfl rfl rfl (E.Runs.loads (cs := [.int .i64 H.teams, .int .i64 H.walk, .int .i64 H.early, .int .i64 H.foyer, .int .i64 H.dl, .int .i64 H.dh, .int .i64 H.cl, .int .i64 H.ch]) rfl rfl hu25 rfl info25s (blk_cells b3)) ?_
    refine E.GL.run rfl rfl rfl (E.Runs.move rfl rfl) ?_
    refine E.GL.run rfl rfl rfl (E.Runs.fieldAddr rfl rfl hu62 rfl (by assumption) rfl) ?_
    refine E.GL.run rfl rfl rfl (E.Runs.loads (cs := [.slice Ar rs.length cr, .slice Ac cs.length cc, .int .i64 ra]) rfl rfl hu49 rfl info49s (E.blks b5 0 rfl)) ?_
    by_cases h23 : CaseOk H l rs cs ra
    · have CW := case_waits h16 h23 m
      have FL := FI.lo
      have FHi := FI.hi
      refine E.GL.st rfl rfl rfl (E.ST.call rfl ent22 (E.evc rfl (E.evc rfl (E.evc rfl E.evn))) ((case_row H l rs cs ra A1 Ar Ac c1 cr cc _ true (iff_of_true rfl h23) (by omega) (Kd.C_below hr L) hc (Kd.C_below hR L) (Kd.C_below hC L)).mono ?_))
      rintro e w23 ⟨rfl, l23⟩
      refine ⟨_, rfl, ?_⟩
      replace b3 := blk_below b3 l23
      replace b5 := blk_below b5 l23
      replace L := below_step L l23
      refine E.GL.run rfl rfl rfl (E.Runs.not rfl rfl) ?_
      refine E.GL.run rfl rfl rfl (E.Runs.pick_f rfl rfl rfl) ?_
      refine E.GL.run rfl rfl rfl (E.Runs.move rfl rfl) ?_
      refine E.GL.run rfl rfl rfl (E.Runs.fieldAddr rfl rfl hu62 rfl (by assumption) rfl) ?_
      refine E.GL.run rfl rfl rfl (E.Runs.load rfl rfl hu3 (by first | assumption | exact E.blkc (by assumption) rfl | exact pw_cell_below L (by assumption))) ?_
      refine E.GL.cmp rfl rfl rfl (fun _ h => (E.Runs.lss rfl rfl rfl h)) (fun h29 => ?_) (fun h29 => ?_)
      · refine E.GL.run rfl rfl rfl (E.Runs.pick_f rfl rfl rfl) ?_
        refine E.GL.run rfl rfl rfl (E.Runs.move rfl rfl) ?_
        refine E.GL.skip rfl rfl rfl ?_
        refine E.GL.skip rfl rfl rfl ?_
        refine E.GL.skip rfl rfl rfl ?_
        refine E.GL.run rfl rfl rfl (E.Runs.pick_t rfl rfl rfl) ?_
        refine E.GL.done ?_
        refine E.QG.code ?_
        refine E.CG.cond_t rfl ?_
        refine E.CG.seq ?_
        refine E.CG.list ?_
        refine E.GL.st rfl rfl rfl (E.ST.call rfl ent14 E.evn ((works_calls _).mono ?_))
        rintro e w36 ⟨rfl, l36⟩
        refine ⟨_, rfl, ?_⟩
        replace b3 := blk_below b3 l36
        replace b5 := blk_below b5 l36
        replace L := below_step L l36
        refine E.GL.run rfl rfl rfl (E.Runs.assign rfl rfl) ?_
        refine E.GL.done ?_
        refine E.QG.code ?_
        refine E.CG.ret ?_
        refine E.QG.pass_ret ?_
        exact E.QG.result rfl rfl ⟨rfl, L⟩
      · refine E.GL.run rfl rfl rfl (E.Runs.pick_f rfl rfl rfl) ?_
        refine E.GL.run rfl rfl rfl (E.Runs.move rfl rfl) ?_
        refine E.GL.run rfl rfl rfl (E.Runs.fieldAddr rfl rfl hu62 rfl (by assumption) rfl) ?_
        refine E.GL.run rfl rfl rfl (E.Runs.load rfl rfl hu3 (by first | assumption | exact E.blkc (by assumption) rfl | exact pw_cell_below L (by assumption))) ?_
        refine E.GL.cmp rfl rfl rfl (fun _ h => (E.Runs.gtr rfl rfl rfl h)) (fun h34 => ?_) (fun h34 => ?_)
        · refine E.GL.run rfl rfl rfl (E.Runs.pick_f rfl rfl rfl) ?_
          refine E.GL.done ?_
          refine E.QG.code ?_
          refine E.CG.cond_t rfl ?_
          refine E.CG.seq ?_
          refine E.CG.list ?_
          refine E.GL.st rfl rfl rfl (E.ST.call rfl ent14 E.evn ((works_calls _).mono ?_))
          rintro e w36 ⟨rfl, l36⟩
          refine ⟨_, rfl, ?_⟩
          replace b3 := blk_below b3 l36
          replace b5 := blk_below b5 l36
          replace L := below_step L l36
          refine E.GL.run rfl rfl rfl (E.Runs.assign rfl rfl) ?_
          refine E.GL.done ?_
          refine E.QG.code ?_
          refine E.CG.ret ?_
          refine E.QG.pass_ret ?_
          exact E.QG.result rfl rfl ⟨rfl, L⟩
        · refine E.GL.run rfl rfl rfl (E.Runs.pick_f rfl rfl rfl) ?_
          refine E.GL.done ?_
          refine E.QG.code ?_
          refine E.CG.cond_f rfl ?_
          refine E.CG.skip ?_
          refine E.QG.code ?_
          refine E.CG.seq ?_
          refine E.CG.list ?_
          refine E.GL.run rfl rfl rfl (E.Runs.loads (cs := [.int .i64 H.teams, .int .i64 H.walk, .int .i64 H.early, .int .i64 H.foyer, .int .i64 H.dl, .int .i64 H.dh, .int .i64 H.cl, .int .i64 H.ch]) rfl rfl hu25 rfl info25s (blk_cells b3)) ?_
          refine E.GL.run rfl rfl rfl (E.Runs.move rfl rfl) ?_
          refine E.GL.run rfl rfl rfl (E.Runs.fieldAddr rfl rfl hu62 rfl (by assumption) rfl) ?_
          refine E.GL.run rfl rfl rfl (E.Runs.load rfl rfl hu3 (by first | assumption | exact E.blkc (by assumption) rfl | exact pw_cell_below L (by assumption))) ?_
          refine E.GL.st rfl rfl rfl (E.ST.call rfl ent26 (E.evc rfl (E.evc rfl (E.evc rfl E.evn))) ((waiting_ok H l m A1 c1 _ h16 ⟨by omega, by omega⟩ (Kd.C_below hr L) hc).mono ?_))
          rintro e w42 ⟨rfl, l42⟩
          refine ⟨_, rfl, ?_⟩
          replace b3 := blk_below b3 l42
          replace b5 := blk_below b5 l42
          replace L := below_step L l42
          refine E.GL.run rfl rfl rfl (E.Runs.move rfl rfl) ?_
          refine E.GL.run rfl rfl rfl (E.Runs.extract rfl rfl rfl) ?_
          refine E.GL.run rfl rfl rfl (E.Runs.extract rfl rfl rfl) ?_
          refine E.GL.st rfl rfl rfl (E.ST.alloc rfl info23z fun g7 w7 e7 b7 l7 => ?_)
          have h7_L : w.heap.size ≤ g7 := by rw [e7]; exact L.size
          have n7_b3 : g3 ≠ g7 := by have := blk_lt b3; omega
          have n7_b5 : g5 ≠ g7 := by have := blk_lt b5; omega
          replace b3 := blk_below b3 l7
          replace b5 := blk_below b5 l7
          replace L := below_step L l7
          refine E.GL.store_whole rfl rfl rfl rfl rfl b7 rfl info23s (two_one _ _) fun wS3_9 c7 lS3_9 => ?_
          replace b3 := blk_grown b3 lS3_9 (E.nes (by first | assumption | exact Ne.symm (by assumption)))
          replace b5 := blk_grown b5 lS3_9 (E.nes (by first | assumption | exact Ne.symm (by assumption)))
          replace L := E.below_own L h7_L lS3_9
          replace b7 := c7
          clear c7
          refine E.GL.run rfl rfl rfl (E.Runs.assign rfl rfl) ?_
          refine E.GL.done ?_
          refine E.QG.code ?_
          refine E.CG.seq ?_
          refine E.CG.list ?_
          refine E.GL.run rfl rfl rfl (E.Runs.loads (cs := [.int .i64 H.teams, .int .i64 H.walk, .int .i64 H.early, .int .i64 H.foyer, .int .i64 H.dl, .int .i64 H.dh, .int .i64 H.cl, .int .i64 H.ch]) rfl rfl hu25 rfl info25s (blk_cells b3)) ?_
          refine E.GL.run rfl rfl rfl (E.Runs.move rfl rfl) ?_
          refine E.GL.st rfl rfl rfl (E.ST.call rfl ent27 (E.evc rfl (E.evc rfl E.evn)) ((crowded_row H l A1 c1 _ h16 (Kd.C_below hr L) hc).mono ?_))
          rintro e w48 ⟨rfl, l48⟩
          refine ⟨_, rfl, ?_⟩
          replace b3 := blk_below b3 l48
          replace b5 := blk_below b5 l48
          replace b7 := blk_below b7 l48
          replace L := below_step L l48
          refine E.GL.run rfl rfl rfl (E.Runs.move rfl rfl) ?_
          refine E.GL.run rfl rfl rfl (E.Runs.extract rfl rfl rfl) ?_
          refine E.GL.run rfl rfl rfl (E.Runs.extract rfl rfl rfl) ?_
          refine E.GL.run rfl rfl rfl (E.Runs.assign rfl rfl) ?_
          refine E.GL.run rfl rfl rfl (E.Runs.assign rfl rfl) ?_
          refine E.GL.done ?_
          refine E.QG.code ?_
          refine E.CG.seq ?_
          refine E.CG.seq ?_
          refine E.CG.list ?_
          refine E.GL.run rfl rfl rfl (E.Runs.move rfl rfl) ?_
          refine E.GL.run rfl rfl rfl (E.Runs.neq rfl rfl rfl (E.ne_f rfl)) ?_
          refine E.GL.run rfl rfl rfl (E.Runs.move rfl rfl) ?_
          refine E.GL.run rfl rfl rfl (E.Runs.move rfl rfl) ?_
          refine E.GL.run rfl rfl rfl (E.Runs.neq rfl rfl rfl (E.ne_f rfl)) ?_
          refine E.GL.run rfl rfl rfl (E.Runs.pick_f rfl rfl rfl) ?_
          refine E.GL.run rfl rfl rfl (E.Runs.move rfl rfl) ?_
          refine E.GL.run rfl rfl rfl (E.Runs.move rfl rfl) ?_
          refine E.GL.run rfl rfl rfl (E.Runs.lss rfl rfl rfl (decide_eq_false (by omega))) ?_
          refine E.GL.run rfl rfl rfl (E.Runs.pick_f rfl rfl rfl) ?_
          refine E.GL.run rfl rfl rfl (E.Runs.move rfl rfl) ?_
          refine E.GL.run rfl rfl rfl (E.Runs.move rfl rfl) ?_
          refine E.GL.run rfl rfl rfl (E.Runs.gtr rfl rfl rfl (decide_eq_false (by omega))) ?_
          refine E.GL.run rfl rfl rfl (E.Runs.pick_f rfl rfl rfl) ?_
          refine E.GL.done ?_
          refine E.QG.code ?_
          refine E.CG.cond_f rfl ?_
          refine E.CG.skip ?_
          refine E.QG.code ?_
          refine E.CG.seq ?_
          refine E.CG.list ?_
          refine E.GL.run rfl rfl rfl (E.Runs.loads (cs := [.int .i64 H.teams, .int .i64 H.walk, .int .i64 H.early, .int .i64 H.foyer, .int .i64 H.dl, .int .i64 H.dh, .int .i64 H.cl, .int .i64 H.ch]) rfl rfl hu25 rfl info25s (blk_cells b3)) ?_
          refine E.GL.run rfl rfl rfl (E.Runs.move rfl rfl) ?_
          refine E.GL.run rfl rfl rfl (E.Runs.fieldAddr rfl rfl hu62 rfl (by assumption) rfl) ?_
          refine E.GL.run rfl rfl rfl (E.Runs.loads (cs := [.slice Ar rs.length cr, .slice Ac cs.length cc, .int .i64 ra]) rfl rfl hu49 rfl info49s (E.blks b5 0 rfl)) ?_
          refine E.GL.run rfl rfl rfl (E.Runs.fieldAddr rfl rfl hu62 rfl (by assumption) rfl) ?_
          refine E.GL.run rfl rfl rfl (E.Runs.load rfl rfl hu3 (by first | assumption | exact E.blkc (by assumption) rfl | exact pw_cell_below L (by assumption))) ?_
          refine E.GL.st rfl rfl rfl (E.ST.call rfl ent28 (E.evc rfl (E.evc rfl (E.evc rfl (E.evc rfl E.evn)))) ((waits_row' H l rs cs ra m A1 Ar Ac c1 cr cc _ ⟨by omega, by omega⟩ h16 h23 (Kd.C_below hr L) hc (Kd.C_below hR L) (Kd.C_below hC L)).mono ?_))
          rintro e w71 ⟨rfl, l71⟩
          refine ⟨_, rfl, ?_⟩
          replace b3 := blk_below b3 l71
          replace b5 := blk_below b5 l71
          replace b7 := blk_below b7 l71
          replace L := below_step L l71
          refine E.GL.run rfl rfl rfl (E.Runs.assign rfl rfl) ?_
          refine E.GL.done ?_
          refine E.QG.code ?_
          refine E.CG.seq ?_
          refine E.CG.seq ?_
          refine E.CG.list ?_
          refine E.GL.run rfl rfl rfl (E.Runs.loads (cs := [.int .i64 (waitT (pcE H) H l m), .int .i64 (waitT (pcL H) H l m)]) rfl rfl hu23 rfl info23s (blk_cells b7)) ?_
          refine E.GL.run rfl rfl rfl (E.Runs.move rfl rfl) ?_
          refine E.GL.st rfl rfl rfl (E.ST.call rfl ent25 (E.evc rfl (E.evc rfl E.evn)) ((in_row (waitT (pcE H) H l m) (waitT (pcL H) H l m) _ true (iff_of_true rfl CW) _).mono ?_))
          rintro e w74 ⟨rfl, l74⟩
          refine ⟨_, rfl, ?_⟩
          replace b3 := blk_below b3 l74
          replace b5 := blk_below b5 l74
          replace b7 := blk_below b7 l74
          replace L := below_step L l74
          refine E.GL.run rfl rfl rfl (E.Runs.not rfl rfl) ?_
          refine E.GL.run rfl rfl rfl (E.Runs.move rfl rfl) ?_
          refine E.GL.run rfl rfl rfl (E.Runs.move rfl rfl) ?_
          refine E.GL.cmp rfl rfl rfl (fun _ h => (E.Runs.eql rfl rfl rfl h)) (fun h78 => ?_) (fun h78 => ?_)
          · refine E.GL.run rfl rfl rfl (E.Runs.move rfl rfl) ?_
            refine E.GL.skip rfl rfl rfl ?_
            refine E.GL.skip rfl rfl rfl ?_
            refine E.GL.skip rfl rfl rfl ?_
            refine E.GL.skip rfl rfl rfl ?_
            refine E.GL.run rfl rfl rfl (E.Runs.pick_t rfl rfl rfl) ?_
            refine E.GL.run rfl rfl rfl (E.Runs.move rfl rfl) ?_
            refine E.GL.run rfl rfl rfl (E.Runs.move rfl rfl) ?_
            refine E.GL.run rfl rfl rfl (E.Runs.fieldAddr rfl rfl hu25 rfl (by assumption) rfl) ?_
            refine E.GL.run rfl rfl rfl (E.Runs.load rfl rfl hu3 (by first | assumption | exact E.blkc (by assumption) rfl | exact pw_cell_below L (by assumption))) ?_
            refine E.GL.run rfl rfl rfl (E.Runs.gtr rfl rfl rfl (decide_eq_false (by have := FI.before m (.inl h78); omega))) ?_
            refine E.GL.run rfl rfl rfl (E.Runs.pick_t rfl rfl rfl) ?_
            refine E.GL.run rfl rfl rfl (E.Runs.pick_f rfl rfl rfl) ?_
            refine E.GL.done ?_
            refine E.QG.code ?_
            refine E.CG.cond_f rfl ?_
            refine E.CG.skip ?_
            refine E.QG.code ?_
            refine E.CG.seq ?_
            refine E.CG.seq ?_
            refine E.CG.list ?_
            refine E.GL.run rfl rfl rfl (E.Runs.move rfl rfl) ?_
            refine E.GL.run rfl rfl rfl (E.Runs.geq rfl rfl rfl (decide_eq_false (by omega))) ?_
            refine E.GL.done ?_
            refine E.QG.code ?_
            refine E.CG.cond_f rfl ?_
            refine E.CG.skip ?_
            refine E.QG.code ?_
            refine E.CG.seq ?_
            refine E.CG.list ?_
            refine E.GL.st rfl rfl rfl (E.ST.call rfl ent14 E.evn ((works_calls _).mono ?_))
            rintro e w113 ⟨rfl, l113⟩
            refine ⟨_, rfl, ?_⟩
            replace b3 := blk_below b3 l113
            replace b5 := blk_below b5 l113
            replace b7 := blk_below b7 l113
            replace L := below_step L l113
            refine E.GL.run rfl rfl rfl (E.Runs.assign rfl rfl) ?_
            refine E.GL.done ?_
            refine E.QG.code ?_
            refine E.CG.ret ?_
            exact E.QG.result rfl rfl ⟨rfl, L⟩
          · refine E.GL.run rfl rfl rfl (E.Runs.move rfl rfl) ?_
            refine E.GL.run rfl rfl rfl (E.Runs.fieldAddr rfl rfl hu62 rfl (by assumption) rfl) ?_
            refine E.GL.run rfl rfl rfl (E.Runs.load rfl rfl hu3 (by first | assumption | exact E.blkc (by assumption) rfl | exact pw_cell_below L (by assumption))) ?_
            refine E.GL.run rfl rfl rfl (E.Runs.move rfl rfl) ?_
            refine E.GL.cmp rfl rfl rfl (fun _ h => (E.Runs.lss rfl rfl rfl h)) (fun h83 => ?_) (fun h83 => ?_)
            · refine E.GL.run rfl rfl rfl (E.Runs.pick_f rfl rfl rfl) ?_
              refine E.GL.run rfl rfl rfl (E.Runs.move rfl rfl) ?_
              refine E.GL.run rfl rfl rfl (E.Runs.move rfl rfl) ?_
              refine E.GL.run rfl rfl rfl (E.Runs.fieldAddr rfl rfl hu25 rfl (by assumption) rfl) ?_
              refine E.GL.run rfl rfl rfl (E.Runs.load rfl rfl hu3 (by first | assumption | exact E.blkc (by assumption) rfl | exact pw_cell_below L (by assumption))) ?_
              refine E.GL.run rfl rfl rfl (E.Runs.gtr rfl rfl rfl (decide_eq_false (by have := FI.before m (.inr h83); omega))) ?_
              refine E.GL.run rfl rfl rfl (E.Runs.pick_t rfl rfl rfl) ?_
              refine E.GL.run rfl rfl rfl (E.Runs.pick_f rfl rfl rfl) ?_
              refine E.GL.done ?_
              refine E.QG.code ?_
              refine E.CG.cond_f rfl ?_
              refine E.CG.skip ?_
              refine E.QG.code ?_
              refine E.CG.seq ?_
              refine E.CG.seq ?_
              refine E.CG.list ?_
              refine E.GL.run rfl rfl rfl (E.Runs.move rfl rfl) ?_
              refine E.GL.run rfl rfl rfl (E.Runs.geq rfl rfl rfl (decide_eq_true (by omega))) ?_
              refine E.GL.done ?_
              refine E.QG.code ?_
              refine E.CG.cond_t rfl ?_
              refine E.CG.seq ?_
              refine E.CG.list ?_
              refine E.GL.run rfl rfl rfl (E.Runs.loads (cs := [.int .i64 H.teams, .int .i64 H.walk, .int .i64 H.early, .int .i64 H.foyer, .int .i64 H.dl, .int .i64 H.dh, .int .i64 H.cl, .int .i64 H.ch]) rfl rfl hu25 rfl info25s (blk_cells b3)) ?_
              refine E.GL.run rfl rfl rfl (E.Runs.move rfl rfl) ?_
              refine E.GL.run rfl rfl rfl (E.Runs.move rfl rfl) ?_
              refine E.GL.st rfl rfl rfl (E.ST.call rfl ent26 (E.evc rfl (E.evc rfl (E.evc rfl E.evn))) ((waiting_ok H l (crowdT H l l) A1 c1 _ h16 ⟨by omega, FI.hi⟩ (Kd.C_below hr L) hc).mono ?_))
              rintro e w98 ⟨rfl, l98⟩
              refine ⟨_, rfl, ?_⟩
              replace b3 := blk_below b3 l98
              replace b5 := blk_below b5 l98
              replace b7 := blk_below b7 l98
              replace L := below_step L l98
              refine E.GL.run rfl rfl rfl (E.Runs.move rfl rfl) ?_
              refine E.GL.run rfl rfl rfl (E.Runs.extract rfl rfl rfl) ?_
              refine E.GL.run rfl rfl rfl (E.Runs.extract rfl rfl rfl) ?_
              refine E.GL.st rfl rfl rfl (E.ST.alloc rfl info23z fun g12 w12 e12 b12 l12 => ?_)
              have h12_L : w.heap.size ≤ g12 := by rw [e12]; exact L.size
              have n12_b3 : g3 ≠ g12 := by have := blk_lt b3; omega
              have n12_b5 : g5 ≠ g12 := by have := blk_lt b5; omega
              have n12_b7 : g7 ≠ g12 := by have := blk_lt b7; omega
              replace b3 := blk_below b3 l12
              replace b5 := blk_below b5 l12
              replace b7 := blk_below b7 l12
              replace L := below_step L l12
              refine E.GL.store_whole rfl rfl rfl rfl rfl b12 rfl info23s (two_one _ _) fun wS11_8 c12 lS11_8 => ?_
              replace b3 := blk_grown b3 lS11_8 (E.nes (by first | assumption | exact Ne.symm (by assumption)))
              replace b5 := blk_grown b5 lS11_8 (E.nes (by first | assumption | exact Ne.symm (by assumption)))
              replace b7 := blk_grown b7 lS11_8 (E.nes (by first | assumption | exact Ne.symm (by assumption)))
              replace L := E.below_own L h12_L lS11_8
              replace b12 := c12
              clear c12
              refine E.GL.run rfl rfl rfl (E.Runs.assign rfl rfl) ?_
              refine E.GL.done ?_
              refine E.QG.code ?_
              refine E.CG.seq ?_
              refine E.CG.list ?_
              refine E.GL.run rfl rfl rfl (E.Runs.move rfl rfl) ?_
              refine E.GL.run rfl rfl rfl (E.Runs.eql rfl rfl rfl (decide_eq_true rfl)) ?_
              refine E.GL.run rfl rfl rfl (E.Runs.move rfl rfl) ?_
              refine E.GL.run rfl rfl rfl (E.Runs.fieldAddr rfl rfl hu23 rfl (by assumption) rfl) ?_
              refine E.GL.run rfl rfl rfl (E.Runs.load rfl rfl hu3 (by first | assumption | exact E.blkc (by assumption) rfl | exact pw_cell_below L (by assumption))) ?_
              refine E.GL.run rfl rfl rfl (E.Runs.fieldAddr rfl rfl hu25 rfl (by assumption) rfl) ?_
              refine E.GL.run rfl rfl rfl (E.Runs.load rfl rfl hu3 (by first | assumption | exact E.blkc (by assumption) rfl | exact pw_cell_below L (by assumption))) ?_
              refine E.GL.run rfl rfl rfl (E.Runs.gtr rfl rfl rfl (decide_eq_true (FI.at_ (by omega)))) ?_
              refine E.GL.run rfl rfl rfl (E.Runs.pick_t rfl rfl rfl) ?_
              refine E.GL.run rfl rfl rfl (E.Runs.move rfl rfl) ?_
              refine E.GL.st rfl rfl rfl (E.ST.call rfl ent14 E.evn ((works_calls _).mono ?_))
              rintro e w111 ⟨rfl, l111⟩
              refine ⟨_, rfl, ?_⟩
              replace b3 := blk_below b3 l111
              replace b5 := blk_below b5 l111
              replace b7 := blk_below b7 l111
              replace b12 := blk_below b12 l111
              replace L := below_step L l111
              refine E.GL.run rfl rfl rfl (E.Runs.pick_t rfl rfl rfl) ?_
              refine E.GL.run rfl rfl rfl (E.Runs.assign rfl rfl) ?_
              refine E.GL.done ?_
              refine E.QG.code ?_
              refine E.CG.ret ?_
              refine E.QG.pass_ret ?_
              exact E.QG.result rfl rfl ⟨rfl, L⟩
            · refine E.GL.run rfl rfl rfl (E.Runs.pick_f rfl rfl rfl) ?_
              refine E.GL.run rfl rfl rfl (E.Runs.move rfl rfl) ?_
              refine E.GL.skip rfl rfl rfl ?_
              refine E.GL.skip rfl rfl rfl ?_
              refine E.GL.skip rfl rfl rfl ?_
              refine E.GL.skip rfl rfl rfl ?_
              refine E.GL.run rfl rfl rfl (E.Runs.pick_f rfl rfl rfl) ?_
              refine E.GL.run rfl rfl rfl (E.Runs.pick_f rfl rfl rfl) ?_
              refine E.GL.done ?_
              refine E.QG.code ?_
              refine E.CG.cond_f rfl ?_
              refine E.CG.skip ?_
              refine E.QG.code ?_
              refine E.CG.seq ?_
              refine E.CG.seq ?_
              refine E.CG.list ?_
              refine E.GL.run rfl rfl rfl (E.Runs.move rfl rfl) ?_
              refine E.GL.run rfl rfl rfl (E.Runs.geq rfl rfl rfl (decide_eq_true (by omega))) ?_
              refine E.GL.done ?_
              refine E.QG.code ?_
              refine E.CG.cond_t rfl ?_
              refine E.CG.seq ?_
              refine E.CG.list ?_
              refine E.GL.run rfl rfl rfl (E.Runs.loads (cs := [.int .i64 H.teams, .int .i64 H.walk, .int .i64 H.early, .int .i64 H.foyer, .int .i64 H.dl, .int .i64 H.dh, .int .i64 H.cl, .int .i64 H.ch]) rfl rfl hu25 rfl info25s (blk_cells b3)) ?_
              refine E.GL.run rfl rfl rfl (E.Runs.move rfl rfl) ?_
              refine E.GL.run rfl rfl rfl (E.Runs.move rfl rfl) ?_
              refine E.GL.st rfl rfl rfl (E.ST.call rfl ent26 (E.evc rfl (E.evc rfl (E.evc rfl E.evn))) ((waiting_ok H l (crowdT H l l) A1 c1 _ h16 ⟨by omega, FI.hi⟩ (Kd.C_below hr L) hc).mono ?_))
              rintro e w98 ⟨rfl, l98⟩
              refine ⟨_, rfl, ?_⟩
              replace b3 := blk_below b3 l98
              replace b5 := blk_below b5 l98
              replace b7 := blk_below b7 l98
              replace L := below_step L l98
              refine E.GL.run rfl rfl rfl (E.Runs.move rfl rfl) ?_
              refine E.GL.run rfl rfl rfl (E.Runs.extract rfl rfl rfl) ?_
              refine E.GL.run rfl rfl rfl (E.Runs.extract rfl rfl rfl) ?_
              refine E.GL.st rfl rfl rfl (E.ST.alloc rfl info23z fun g12 w12 e12 b12 l12 => ?_)
              have h12_L : w.heap.size ≤ g12 := by rw [e12]; exact L.size
              have n12_b3 : g3 ≠ g12 := by have := blk_lt b3; omega
              have n12_b5 : g5 ≠ g12 := by have := blk_lt b5; omega
              have n12_b7 : g7 ≠ g12 := by have := blk_lt b7; omega
              replace b3 := blk_below b3 l12
              replace b5 := blk_below b5 l12
              replace b7 := blk_below b7 l12
              replace L := below_step L l12
              refine E.GL.store_whole rfl rfl rfl rfl rfl b12 rfl info23s (two_one _ _) fun wS11_8 c12 lS11_8 => ?_
              replace b3 := blk_grown b3 lS11_8 (E.nes (by first | assumption | exact Ne.symm (by assumption)))
              replace b5 := blk_grown b5 lS11_8 (E.nes (by first | assumption | exact Ne.symm (by assumption)))
              replace b7 := blk_grown b7 lS11_8 (E.nes (by first | assumption | exact Ne.symm (by assumption)))
              replace L := E.below_own L h12_L lS11_8
              replace b12 := c12
              clear c12
              refine E.GL.run rfl rfl rfl (E.Runs.assign rfl rfl) ?_
              refine E.GL.done ?_
              refine E.QG.code ?_
              refine E.CG.seq ?_
              refine E.CG.list ?_
              refine E.GL.run rfl rfl rfl (E.Runs.move rfl rfl) ?_
              refine E.GL.run rfl rfl rfl (E.Runs.eql rfl rfl rfl (decide_eq_true rfl)) ?_
              refine E.GL.run rfl rfl rfl (E.Runs.move rfl rfl) ?_
              refine E.GL.run rfl rfl rfl (E.Runs.fieldAddr rfl rfl hu23 rfl (by assumption) rfl) ?_
              refine E.GL.run rfl rfl rfl (E.Runs.load rfl rfl hu3 (by first | assumption | exact E.blkc (by assumption) rfl | exact pw_cell_below L (by assumption))) ?_
              refine E.GL.run rfl rfl rfl (E.Runs.fieldAddr rfl rfl hu25 rfl (by assumption) rfl) ?_
              refine E.GL.run rfl rfl rfl (E.Runs.load rfl rfl hu3 (by first | assumption | exact E.blkc (by assumption) rfl | exact pw_cell_below L (by assumption))) ?_
              refine E.GL.run rfl rfl rfl (E.Runs.gtr rfl rfl rfl (decide_eq_true (FI.at_ (by omega)))) ?_
              refine E.GL.run rfl rfl rfl (E.Runs.pick_t rfl rfl rfl) ?_
              refine E.GL.run rfl rfl rfl (E.Runs.move rfl rfl) ?_
              refine E.GL.st rfl rfl rfl (E.ST.call rfl ent14 E.evn ((works_calls _).mono ?_))
              rintro e w111 ⟨rfl, l111⟩
              refine ⟨_, rfl, ?_⟩
              replace b3 := blk_below b3 l111
              replace b5 := blk_below b5 l111
              replace b7 := blk_below b7 l111
              replace b12 := blk_below b12 l111
              replace L := below_step L l111
              refine E.GL.run rfl rfl rfl (E.Runs.pick_t rfl rfl rfl) ?_
              refine E.GL.run rfl rfl rfl (E.Runs.assign rfl rfl) ?_
              refine E.GL.done ?_
              refine E.QG.code ?_
              refine E.CG.ret ?_
              refine E.QG.pass_ret ?_
              exact E.QG.result rfl rfl ⟨rfl, L⟩
    · refine E.GL.st rfl rfl rfl (E.ST.call rfl ent22 (E.evc rfl (E.evc rfl (E.evc rfl E.evn))) ((case_row H l rs cs ra A1 Ar Ac c1 cr cc _ false (iff_of_false Bool.false_ne_true h23) (by omega) (Kd.C_below hr L) hc (Kd.C_below hR L) (Kd.C_below hC L)).mono ?_))
      rintro e w23 ⟨rfl, l23⟩
      refine ⟨_, rfl, ?_⟩
      replace b3 := blk_below b3 l23
      replace b5 := blk_below b5 l23
      replace L := below_step L l23
      refine E.GL.run rfl rfl rfl (E.Runs.not rfl rfl) ?_
      refine E.GL.run rfl rfl rfl (E.Runs.pick_f rfl rfl rfl) ?_
      refine E.GL.run rfl rfl rfl (E.Runs.move rfl rfl) ?_
      refine E.GL.skip rfl rfl rfl ?_
      refine E.GL.skip rfl rfl rfl ?_
      refine E.GL.skip rfl rfl rfl ?_
      refine E.GL.run rfl rfl rfl (E.Runs.pick_t rfl rfl rfl) ?_
      refine E.GL.run rfl rfl rfl (E.Runs.move rfl rfl) ?_
      refine E.GL.skip rfl rfl rfl ?_
      refine E.GL.skip rfl rfl rfl ?_
      refine E.GL.skip rfl rfl rfl ?_
      refine E.GL.run rfl rfl rfl (E.Runs.pick_t rfl rfl rfl) ?_
      refine E.GL.done ?_
      refine E.QG.code ?_
      refine E.CG.cond_t rfl ?_
      refine E.CG.seq ?_
      refine E.CG.list ?_
      refine E.GL.st rfl rfl rfl (E.ST.call rfl ent14 E.evn ((works_calls _).mono ?_))
      rintro e w36 ⟨rfl, l36⟩
      refine ⟨_, rfl, ?_⟩
      replace b3 := blk_below b3 l36
      replace b5 := blk_below b5 l36
      replace L := below_step L l36
      refine E.GL.run rfl rfl rfl (E.Runs.assign rfl rfl) ?_
      refine E.GL.done ?_
      refine E.QG.code ?_
      refine E.CG.ret ?_
      refine E.QG.pass_ret ?_
      exact E.QG.result rfl rfl ⟨rfl, L⟩
  · refine E.GL.st rfl rfl rfl (E.ST.call rfl ent13 (E.evc rfl (E.evc rfl E.evn)) ((valid_row H l A1 c1 _ false (iff_of_false Bool.false_ne_true h16) (Kd.C_below hr L) hc).mono ?_))
    rintro e w16 ⟨rfl, l16⟩
    refine ⟨_, rfl, ?_⟩
    replace b3 := blk_below b3 l16
    replace b5 := blk_below b5 l16
    replace L := below_step L l16
    refine E.GL.run rfl rfl rfl (E.Runs.not rfl rfl) ?_
    refine E.GL.run rfl rfl rfl (E.Runs.move rfl rfl) ?_
    refine E.GL.skip rfl rfl rfl ?_
    refine E.GL.skip rfl rfl rfl ?_
    refine E.GL.skip rfl rfl rfl ?_
    refine E.GL.skip rfl rfl rfl ?_
    refine E.GL.skip rfl rfl rfl ?_
    refine E.GL.skip rfl rfl rfl ?_
    refine E.GL.run rfl rfl rfl (E.Runs.pick_t rfl rfl rfl) ?_
    refine E.GL.run rfl rfl rfl (E.Runs.move rfl rfl) ?_
    refine E.GL.skip rfl rfl rfl ?_
    refine E.GL.skip rfl rfl rfl ?_
    refine E.GL.skip rfl rfl rfl ?_
    refine E.GL.run rfl rfl rfl (E.Runs.pick_t rfl rfl rfl) ?_
    refine E.GL.run rfl rfl rfl (E.Runs.move rfl rfl) ?_
    refine E.GL.skip rfl rfl rfl ?_
    refine E.GL.skip rfl rfl rfl ?_
    refine E.GL.skip rfl rfl rfl ?_
    refine E.GL.run rfl rfl rfl (E.Runs.pick_t rfl rfl rfl) ?_
    refine E.GL.done ?_
    refine E.QG.code ?_
    refine E.CG.cond_t rfl ?_
    refine E.CG.seq ?_
    refine E.CG.list ?_
    refine E.GL.st rfl rfl rfl (E.ST.call rfl ent14 E.evn ((works_calls _).mono ?_))
    rintro e w36 ⟨rfl, l36⟩
    refine ⟨_, rfl, ?_⟩
    replace b3 := blk_below b3 l36
    replace b5 := blk_below b5 l36
    replace L := below_step L l36
    refine E.GL.run rfl rfl rfl (E.Runs.assign rfl rfl) ?_
    refine E.GL.done ?_
    refine E.QG.code ?_
    refine E.CG.ret ?_
    refine E.QG.pass_ret ?_
    exact E.QG.result rfl rfl ⟨rfl, L⟩

end Go.Proofs.Ythdbkhdiaehblaa.T
