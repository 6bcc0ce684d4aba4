/- TurnEasier: what is easier; the walk. -/
import Derived.Test.YthdbkhdiaehblaaT37
import Derived.Test.YthdbkhdiaehblaaT30
namespace Go.Proofs.Ythdbkhdiaehblaa.T
open Go.RowKit Go.Proofs.YthdbkhdiaehblaaW.PrintWords Go.Proofs.YthdbkhdiaehblaaW.PrintMore
open Go.Proofs.Ythdbkhdiaehblaa.P
set_option linter.unusedVariables false
set_option linter.unusedSimpArgs false

def easeH (H : Hs) (c k d : Int) : Hs := ⟨H.teams, mx 0 (H.walk - k), H.early, H.foyer, mn 100 (H.dl + d), mn 100 (H.dh + d), mx 1 (H.cl - c), mx 1 (H.ch - c)⟩
def easeS (r : Int) (s : S36) : S36 := ⟨s.f0, s.f1, ⟨mx 1 (s.f2.f0 - r), mx 1 (s.f2.f1 - r)⟩, s.f3, s.f4⟩
theorem mx_lo {a b : Int} (h : a ≤ b) (k : 0 ≤ 0) : mx a b = b := by unfold mx; split <;> omega
theorem mx_ease {b r : Int} (h : 1 ≤ b) (k : 0 ≤ r) : 1 ≤ mx 1 (b - r) ∧ mx 1 (b - r) ≤ b := by unfold mx; split <;> omega
theorem mx_walk {b r : Int} (h : 0 ≤ b) (k : 0 ≤ r) : 0 ≤ mx 0 (b - r) ∧ mx 0 (b - r) ≤ b := by unfold mx; split <;> omega
theorem mn_doors {b d : Int} (h : b ≤ 100) (k : 0 ≤ d) : b ≤ mn 100 (b + d) ∧ mn 100 (b + d) ≤ 100 := by unfold mn; split <;> omega
theorem house_ease {H : Hs} {c k d : Int} (h : HouseOk H) (hc : 0 ≤ c) (hk : 0 ≤ k) (hd : 0 ≤ d) : HouseOk (easeH H c k d) := by
  obtain ⟨h1, h2, h3, h4, h5, h6⟩ := h
  have a1 := mx_walk h2.1 hk
  have a2 := mn_doors (b := H.dl) (d := d) (by omega) hd
  have a3 := mn_doors (b := H.dh) (d := d) (by omega) hd
  have a4 := mx_ease (b := H.cl) (by omega) hc
  have a5 := mx_ease (b := H.ch) (by omega) hc
  have a6 : mn 100 (H.dl + d) ≤ mn 100 (H.dh + d) := by unfold mn; split <;> split <;> omega
  have a7 : mx 1 (H.cl - c) ≤ mx 1 (H.ch - c) := by unfold mx; split <;> split <;> omega
  exact ⟨h1, ⟨a1.1, by show mx 0 (H.walk - k) ≤ 60; omega⟩, h3, h4, ⟨by show 1 ≤ mn 100 (H.dl + d); omega, a6, a3.2⟩, ⟨a4.1, a7, by show mx 1 (H.ch - c) ≤ 120; omega⟩⟩
theorem rd36_map (f : S36 → S36) (m : List S36) (h : m ≠ []) : rd_T36 (m.map f) (((m.map f).length : Int) - 1) = f (rd_T36 m ((m.length : Int) - 1)) := by
  have hp := List.length_pos_iff.mpr h
  rw [rd36_last _ (by simpa using hp), rd36_last _ hp]
  simp
theorem valid_ease {H : Hs} {l : List S36} {r c k d : Int} (h : Valid H l) (hr : 0 ≤ r) (hc : 0 ≤ c) (hk : 0 ≤ k) (hd : 0 ≤ d) : Valid (easeH H c k d) (l.map (easeS r)) := by
  refine ⟨house_ease h.1 hc hk hd, by rw [List.length_map]; exact h.2.1, fun j _ hj => ?_⟩
  have hjl : j < l.length := by simpa using hj
  obtain ⟨⟨s1, s2, s3, s4⟩, f1, f2, f3⟩ := h.2.2 j (Nat.zero_le _) hjl
  rw [List.getElem_map, ← List.map_take]
  have a1 := mx_ease (b := l[j].f2.f0) (by omega) hr
  have a2 := mx_ease (b := l[j].f2.f1) (by omega) hr
  have a3 : mx 1 (l[j].f2.f0 - r) ≤ mx 1 (l[j].f2.f1 - r) := by unfold mx; split <;> split <;> omega
  refine ⟨⟨s1, ⟨a1.1, a3, by show mx 1 (l[j].f2.f1 - r) ≤ 400; omega⟩, s3, s4⟩, f1, fun hne => ?_, fun o ho => ?_⟩
  · have hne' : l.take j ≠ [] := fun e => hne (by rw [e]; rfl)
    rw [rd36_map _ _ hne']
    exact f2 hne'
  · obtain ⟨y, hy, rfl⟩ := List.mem_map.mp ho
    exact f3 y hy
theorem ease_day {H : Hs} {l : List S36} {r c k d : Int} (h : Valid H l) (hr : 0 ≤ r) (hc : 0 ≤ c) (hk : 0 ≤ k) (hd : 0 ≤ d) {i : Nat} {t u t' u' : Tm}
    (ht : (earlyDay H l)[i]? = some t) (hu : (lateDay H l)[i]? = some u) (ht' : (earlyDay (easeH H c k d) (l.map (easeS r)))[i]? = some t') (hu' : (lateDay (easeH H c k d) (l.map (easeS r)))[i]? = some u') : PlLe t' t ∧ PlLe u' u := by
  have V' := valid_ease h hr hc hk hd
  obtain ⟨h1, h2, h3, h4, h5, h6⟩ := h.1
  have a1 := mx_walk h2.1 hk
  have a2 := mn_doors (b := H.dl) (d := d) (by omega) hd
  have a3 := mn_doors (b := H.dh) (d := d) (by omega) hd
  have a4 := mx_ease (b := H.cl) (by omega) hc
  have a5 := mx_ease (b := H.ch) (by omega) hc
  rw [earlyDay, allE_is h.1 (valid_slots h)] at ht
  rw [lateDay, allL_is h.1 (valid_slots h)] at hu
  rw [earlyDay, allE_is V'.1 (valid_slots V')] at ht'
  rw [lateDay, allL_is V'.1 (valid_slots V')] at hu'
  rw [List.map_map] at ht' hu'
  have XE : ∀ x ∈ l.map (itOf (pcE (easeH H c k d)) ∘ easeS r), ItOk x := by
    intro x hx
    obtain ⟨y, hy, rfl⟩ := List.mem_map.mp hx
    exact itE V'.1 (valid_slots V' _ (List.mem_map_of_mem hy))
  have XL : ∀ x ∈ l.map (itOf (pcL (easeH H c k d)) ∘ easeS r), ItOk x := by
    intro x hx
    obtain ⟨y, hy, rfl⟩ := List.mem_map.mp hx
    exact itL V'.1 (valid_slots V' _ (List.mem_map_of_mem hy))
  refine ⟨(runT_mono (rtE V'.1) (rtE h.1) ?_ _ _ [] [] (all2_map _ _ l fun y hy => ?_) XE AccLe.nil).get ht' ht, (runT_mono (rtL V'.1) (rtL h.1) ?_ _ _ [] [] (all2_map _ _ l fun y hy => ?_) XL AccLe.nil).get hu' hu⟩
  · exact ⟨a3.1, a1.2, rfl⟩
  · have := (valid_slots h y hy).1.2.1
    exact ⟨rfl, rfl, rfl, rfl, (mx_ease (b := y.f2.f0) (by omega) hr).2, a4.2⟩
  · exact ⟨a2.1, a1.2, rfl⟩
  · have := (valid_slots h y hy).1.2.1
    exact ⟨rfl, rfl, rfl, rfl, (mx_ease (b := y.f2.f1) (by omega) hr).2, a5.2⟩
/-- What could not be late cannot. -/
theorem ease_late {H : Hs} {l : List S36} {r c k d : Int} (h : Valid H l) (hr : 0 ≤ r) (hc : 0 ≤ c) (hk : 0 ≤ k) (hd : 0 ≤ d) :
    ((lateT l (lateDay H l) 0).1 = -1 → (lateT (l.map (easeS r)) (lateDay (easeH H c k d) (l.map (easeS r))) 0).1 = -1) ∧ (0 ≤ (lateT (l.map (easeS r)) (lateDay (easeH H c k d) (l.map (easeS r))) 0).1 → (lateT l (lateDay H l) 0).1 ≤ (lateT (l.map (easeS r)) (lateDay (easeH H c k d) (l.map (easeS r))) 0).1) := by
  have LI := @late_is H l
  rcases lateT_spec (l.map (easeS r)) (lateDay (easeH H c k d) (l.map (easeS r))) 0 with ⟨h1, _⟩ | ⟨j, s', u', h1, h2, h3, h4, _⟩
  · rw [h1]
    exact ⟨fun _ => rfl, fun hh => absurd hh (by decide)⟩
  · rw [h4]
    have hj : j < l.length := by have := (List.getElem?_eq_some_iff.1 h1).1; simpa using this
    obtain ⟨s, hs⟩ : ∃ s, l[j]? = some s := ⟨_, List.getElem?_eq_getElem hj⟩
    obtain ⟨t, ht⟩ : ∃ t, (earlyDay H l)[j]? = some t := ⟨_, List.getElem?_eq_getElem (by rw [allT_length]; exact hj)⟩
    obtain ⟨u, hu⟩ : ∃ t, (lateDay H l)[j]? = some t := ⟨_, List.getElem?_eq_getElem (by rw [allT_length]; exact hj)⟩
    obtain ⟨t', ht'⟩ : ∃ t, (earlyDay (easeH H c k d) (l.map (easeS r)))[j]? = some t := ⟨_, List.getElem?_eq_getElem (by rw [allT_length, List.length_map]; exact hj)⟩
    obtain ⟨_, P⟩ := ease_day h hr hc hk hd ht hu ht' h2
    rw [List.getElem?_map, hs] at h1
    cases h1
    have h5 : s.f1 < u'.start := h3
    have h6 := P.s
    obtain ⟨q1, _⟩ := LI.at_ j s u hs hu
    obtain ⟨q2, q3⟩ := q1 (by omega)
    exact ⟨fun hh => absurd hh q2, fun _ => by show _ ≤ (0 : Int) + j; omega⟩
theorem times_reads' (H : Hs) (l : List S36) (n : Nat) (A1 : Option Addr) (c1 : Nat) (w : World) (hn : l.length = n) (h : Valid H l) (hr : Kd.C k36 w A1 n l) (hc : n ≤ c1) :
    Calls Try.prog 15 #[hv H, .slice A1 n c1] w fun e w' => ∃ A c, e = .returned (.tuple #[.slice A n c, .int .i64 0]) ∧ Kd.C k34 w' A l.length (moments H l) ∧ Below w.heap.size w w' := by
  subst hn
  exact times_reads H l A1 c1 w h hr hc
theorem late_row' (H : Hs) (l : List S36) (n : Nat) (A1 : Option Addr) (c1 : Nat) (w : World) (hn : l.length = n) (h : Valid H l) (hr : Kd.C k36 w A1 n l) (hc : n ≤ c1) :
    Calls Try.prog 23 #[hv H, .slice A1 n c1] w fun e w' => e = .returned (.tuple #[.int .i64 (lateT l (lateDay H l) 0).1, .int .i64 (lateT l (lateDay H l) 0).2, .int .i64 0]) ∧ Below w.heap.size w w' := by
  subst hn
  exact late_row H l A1 c1 w h hr hc
theorem copied_low (l : List S36) (A1 : Option Addr) (c1 : Nat) (w : World) (B : Nat) (hn : l.length ≤ 1000000) (hr : Kd.C k36 w A1 l.length l) (hc : l.length ≤ c1) (hB : B ≤ w.heap.size) :
    Calls Try.prog 18 #[.slice A1 l.length c1] w fun e w' => ∃ v, e = .returned v ∧ Kd.R k36 36 w' B (fun _ => True) v l ∧ Below w.heap.size w w' :=
  (copied_own l A1 c1 w hn hr hc).mono fun _ _ ⟨v, h1, h2, h3⟩ => ⟨v, h1, Kd.R_lower h2 hB, h3⟩
theorem info59s : (Try.prog.info? 59).map (·.size) = some 4 := by kernel_rfl
theorem row36_at {W : World} {base : Nat} {A : Option Addr} {n c : Nat} {xs : List S36} {i : Nat} {s : S36} (R : Kd.R k36 36 W base (fun _ => True) (.slice A n c) xs) (hs : xs[i]? = some s) :
    ∃ g, A = some ⟨g, 0, none⟩ ∧ base ≤ g ∧ (∀ (j : Nat) (u : Value), (six s)[j]? = some u → W.cell? ⟨g, i * 6 + j, none⟩ = some u) ∧ W.there g (i * 6 + 2) 2 ∧
      ∀ a b : Int, Kd.R k36 36 (W.setCells g (i * 6 + 2) [.int .i64 a, .int .i64 b]) base (fun _ => True) (.slice A n c) (xs.set i ⟨s.f0, s.f1, ⟨a, b⟩, s.f3, s.f4⟩) ∧ W.grownBy (W.setCells g (i * 6 + 2) [.int .i64 a, .int .i64 b]) (some g) := by
  have hil : i < xs.length := (List.getElem?_eq_some_iff.1 hs).1
  obtain ⟨g, cap, hv, hb, hl, cells, hc⟩ := Kd.R_form R (by omega)
  have hn := (Kd.R_reads' R).1
  injection hv with hA hn' hc'
  subst hA hc'
  obtain ⟨cs, h1, h2, h3, h4⟩ := Kd.R_elem R z36 (i : Int) (by omega) (by omega)
  have hx : xs.getD i z36 = s := by simp [List.getD_eq_getElem?_getD, hs]
  rw [Int.toNat_natCast, hx] at h2
  obtain rfl := k36_open (Kd.K_of_M k36 h2)
  rw [Int.toNat_natCast] at h3 h4
  refine ⟨g, rfl, hb, h3, fun j hj => ?_, fun a b => ?_⟩
  · have hj' : 2 + j < 6 := by omega
    refine ⟨?_, ?_⟩
    · have := h3 (2 + j) ((six s)[2 + j]'hj') (List.getElem?_eq_getElem hj')
      rw [Nat.add_assoc, show (i * 6 + (2 + j)) = i * k36.sz + (2 + j) from rfl, this]
      rfl
    · rw [Nat.add_assoc]
      exact h4 (2 + j)
  · have := Kd.R_seg R (i : Int) (by omega) (by omega) (seg := [.int .i64 a, .int .i64 b]) (j := 2) h1 (by rw [Int.toNat_natCast]; exact h3) (by show 2 + 2 ≤ 6; decide) (x' := (⟨s.f0, s.f1, ⟨a, b⟩, s.f3, s.f4⟩ : S36)) (okp := fun _ => False) (k36_mkM _ _ _ (⟨s.f0, s.f1, ⟨a, b⟩, s.f3, s.f4⟩ : S36)) (fun _ hk => hk.elim)
    rw [Int.toNat_natCast] at this
    exact this
theorem upd_step {l : List S36} {r : Int} {i : Nat} {s : S36} (hs : l[i]? = some s) : ((l.map (easeS r)).take i ++ l.drop i).set i (easeS r s) = (l.map (easeS r)).take (i + 1) ++ l.drop (i + 1) := by
  obtain ⟨h1, rfl⟩ := List.getElem?_eq_some_iff.1 hs
  rw [List.set_append_right _ _ (by simp; omega), List.drop_eq_getElem_cons h1, List.take_add_one, List.getElem?_map, hs]
  simp
  rw [show i - min i l.length = 0 by omega, List.drop_eq_getElem_cons h1]
  rfl
theorem upd_at {l : List S36} {r : Int} {i : Nat} {s : S36} (hs : l[i]? = some s) : ((l.map (easeS r)).take i ++ l.drop i)[i]? = some s := by
  have h1 := (List.getElem?_eq_some_iff.1 hs).1
  rw [List.getElem?_append_right (by simp; omega)]
  simp
  rw [show i + (i - min i l.length) = i by omega]
  exact hs
set_option maxRecDepth 100000 in
set_option maxHeartbeats 8000000 in

theorem easier_law (H : Hs) (l : List S36) (r c k d : Int) (A1 : Option Addr) (c1 : Nat) (w : World) (hr : Kd.C k36 w A1 l.length l) (hc : l.length ≤ c1) :
    Calls Try.prog 7 #[hv H, .slice A1 l.length c1, .agg #[.int .i64 r, .int .i64 c, .int .i64 k, .int .i64 d]] w fun e w' => e = .returned (.bool true) ∧ Below w.heap.size w w' := by
  have hu3 := Try.underlying3
  have hu23 := Try.underlying23
  have hu25 := Try.underlying25
  have hu26 := Try.underlying26
  have hu29 := Try.underlying29
  have hu34 := Try.underlying34
  have hu36 := Try.underlying36
  have hu59 := Try.underlying59
  obtain ⟨z3, o3⟩ := info_some info3s (by decide)
  obtain ⟨z23, o23⟩ := info_some info23s (by decide)
  obtain ⟨z34, o34⟩ := info_some info34s (by decide)
  obtain ⟨z36, o36⟩ := info_some info36s (by decide)
  refine E.enter (N := 293) Try.func7 rfl Try.ntmps7 (args := [hv H, .slice A1 l.length c1, .agg #[.int .i64 r, .int .i64 c, .int .i64 k, .int .i64 d]]) (by simp) ?_
  have L := Below.refl w.heap.size w
  refine E.CG.seq ?_
  refine E.CG.list ?_
  refine E.GL.st rfl rfl rfl (E.ST.box rfl rfl fun g3 w3 e3 b3 l3 => ?_)
  have h3_L : w.heap.size ≤ g3 := by rw [e3]; exact L.size
  replace L := below_step L l3
  refine E.GL.st rfl rfl rfl (E.ST.box rfl rfl fun g5 w5 e5 b5 l5 => ?_)
  have h5_L : w.heap.size ≤ g5 := by rw [e5]; exact L.size
  have n5_b3 : g3 ≠ g5 := by have := blk_lt b3; omega
  replace b3 := blk_below b3 l5
  replace L := below_step L l5
  refine E.GL.run rfl rfl rfl (E.Runs.assign rfl rfl) ?_
  refine E.GL.done ?_
  refine E.QG.code ?_
  refine E.CG.seq ?_
  refine E.CG.seq ?_
  refine E.CG.list ?_
  refine E.GL.run rfl rfl rfl (E.Runs.loads (cs := [.int .i64 H.teams, .int .i64 H.walk, .int .i64 H.early, .int .i64 H.foyer, .int .i64 H.dl, .int .i64 H.dh, .int .i64 H.cl, .int .i64 H.ch]) rfl rfl hu25 rfl info25s (blk_cells b3)) ?_
  refine E.GL.run rfl rfl rfl (E.Runs.move rfl rfl) ?_
  by_cases h23 : Valid H l
  · have hn := h23.2.1
    have hH := h23.1
    unfold HouseOk at hH
    refine E.GL.st rfl rfl rfl (E.ST.call rfl ent13 (E.evc rfl (E.evc rfl E.evn)) ((valid_row H l A1 c1 _ true (iff_of_true rfl h23) (Kd.C_below hr L) hc).mono ?_))
    rintro e w23 ⟨rfl, l23⟩
    refine ⟨_, rfl, ?_⟩
    replace b3 := blk_below b3 l23
    replace b5 := blk_below b5 l23
    replace L := below_step L l23
    refine E.GL.run rfl rfl rfl (E.Runs.not rfl rfl) ?_
    refine E.GL.run rfl rfl rfl (E.Runs.move rfl rfl) ?_
    refine E.GL.run rfl rfl rfl (E.Runs.fieldAddr rfl rfl hu59 rfl (by assumption) rfl) ?_
    refine E.GL.run rfl rfl rfl (E.Runs.load rfl rfl hu3 (by first | assumption | exact E.blkc (by assumption) rfl | exact pw_cell_below L (by assumption))) ?_
    refine E.GL.run rfl rfl rfl (E.Runs.fieldAddr rfl rfl hu59 rfl (by assumption) rfl) ?_
    refine E.GL.run rfl rfl rfl (E.Runs.load rfl rfl hu3 (by first | assumption | exact E.blkc (by assumption) rfl | exact pw_cell_below L (by assumption))) ?_
    refine E.GL.run rfl rfl rfl (E.Runs.fieldAddr rfl rfl hu59 rfl (by assumption) rfl) ?_
    refine E.GL.run rfl rfl rfl (E.Runs.load rfl rfl hu3 (by first | assumption | exact E.blkc (by assumption) rfl | exact pw_cell_below L (by assumption))) ?_
    refine E.GL.run rfl rfl rfl (E.Runs.fieldAddr rfl rfl hu59 rfl (by assumption) rfl) ?_
    refine E.GL.run rfl rfl rfl (E.Runs.load rfl rfl hu3 (by first | assumption | exact E.blkc (by assumption) rfl | exact pw_cell_below L (by assumption))) ?_
    refine E.GL.run rfl rfl rfl (E.Runs.min4 rfl rfl rfl rfl rfl rfl) ?_
    refine E.GL.cmp rfl rfl rfl (fun _ h => (E.Runs.lss rfl rfl rfl h)) (fun h35 => ?_) (fun h35 => ?_)
    · refine E.GL.run rfl rfl rfl (E.Runs.pick_f rfl rfl rfl) ?_
      refine E.GL.run rfl rfl rfl (E.Runs.move rfl rfl) ?_
      refine E.GL.skip rfl rfl rfl ?_
      refine E.GL.skip rfl rfl rfl ?_
      refine E.GL.skip rfl rfl rfl ?_
      refine E.GL.skip rfl rfl rfl ?_
      refine E.GL.skip rfl rfl rfl ?_
      refine E.GL.skip rfl rfl rfl ?_
      refine E.GL.skip rfl rfl rfl ?_
      refine E.GL.skip rfl rfl rfl ?_
      refine E.GL.skip rfl rfl rfl ?_
      refine E.GL.skip rfl rfl rfl ?_
      refine E.GL.run rfl rfl rfl (E.Runs.pick_t rfl rfl rfl) ?_
      refine E.GL.done ?_
      refine E.QG.code ?_
      refine E.CG.cond_t rfl ?_
      refine E.CG.seq ?_
      refine E.CG.list ?_
      refine E.GL.st rfl rfl rfl (E.ST.call rfl ent14 E.evn ((works_calls _).mono ?_))
      rintro e w49 ⟨rfl, l49⟩
      refine ⟨_, rfl, ?_⟩
      replace b3 := blk_below b3 l49
      replace b5 := blk_below b5 l49
      replace L := below_step L l49
      refine E.GL.run rfl rfl rfl (E.Runs.assign rfl rfl) ?_
      refine E.GL.done ?_
      refine E.QG.code ?_
      refine E.CG.ret ?_
      refine E.QG.pass_ret ?_
      exact E.QG.result rfl rfl ⟨rfl, L⟩
    · refine E.GL.run rfl rfl rfl (E.Runs.pick_f rfl rfl rfl) ?_
      refine E.GL.run rfl rfl rfl (E.Runs.move rfl rfl) ?_
      refine E.GL.run rfl rfl rfl (E.Runs.fieldAddr rfl rfl hu59 rfl (by assumption) rfl) ?_
      refine E.GL.run rfl rfl rfl (E.Runs.load rfl rfl hu3 (by first | assumption | exact E.blkc (by assumption) rfl | exact pw_cell_below L (by assumption))) ?_
      refine E.GL.run rfl rfl rfl (E.Runs.fieldAddr rfl rfl hu59 rfl (by assumption) rfl) ?_
      refine E.GL.run rfl rfl rfl (E.Runs.load rfl rfl hu3 (by first | assumption | exact E.blkc (by assumption) rfl | exact pw_cell_below L (by assumption))) ?_
      refine E.GL.run rfl rfl rfl (E.Runs.fieldAddr rfl rfl hu59 rfl (by assumption) rfl) ?_
      refine E.GL.run rfl rfl rfl (E.Runs.load rfl rfl hu3 (by first | assumption | exact E.blkc (by assumption) rfl | exact pw_cell_below L (by assumption))) ?_
      refine E.GL.run rfl rfl rfl (E.Runs.fieldAddr rfl rfl hu59 rfl (by assumption) rfl) ?_
      refine E.GL.run rfl rfl rfl (E.Runs.load rfl rfl hu3 (by first | assumption | exact E.blkc (by assumption) rfl | exact pw_cell_below L (by assumption))) ?_
      refine E.GL.run rfl rfl rfl (E.Runs.max4 rfl rfl rfl rfl rfl rfl) ?_
      refine E.GL.cmp rfl rfl rfl (fun _ h => (E.Runs.gtr rfl rfl rfl h)) (fun h47 => ?_) (fun h47 => ?_)
      · refine E.GL.run rfl rfl rfl (E.Runs.pick_f rfl rfl rfl) ?_
        refine E.GL.done ?_
        refine E.QG.code ?_
        refine E.CG.cond_t rfl ?_
        refine E.CG.seq ?_
        refine E.CG.list ?_
        refine E.GL.st rfl rfl rfl (E.ST.call rfl ent14 E.evn ((works_calls _).mono ?_))
        rintro e w49 ⟨rfl, l49⟩
        refine ⟨_, rfl, ?_⟩
        replace b3 := blk_below b3 l49
        replace b5 := blk_below b5 l49
        replace L := below_step L l49
        refine E.GL.run rfl rfl rfl (E.Runs.assign rfl rfl) ?_
        refine E.GL.done ?_
        refine E.QG.code ?_
        refine E.CG.ret ?_
        refine E.QG.pass_ret ?_
        exact E.QG.result rfl rfl ⟨rfl, L⟩
      · have e0 : 0 ≤ r ∧ 0 ≤ c ∧ 0 ≤ k ∧ 0 ≤ d := by unfold mn at h35; (repeat' split at h35) <;> omega
        have e1 : r ≤ 1000 ∧ c ≤ 1000 ∧ k ≤ 1000 ∧ d ≤ 1000 := by unfold mx at h47; (repeat' split at h47) <;> omega
        have VX := valid_ease h23 e0.1 e0.2.1 e0.2.2.1 e0.2.2.2
        have EL := ease_late h23 e0.1 e0.2.1 e0.2.2.1 e0.2.2.2
        have LI := @late_is H l
        have LJ := @late_is (easeH H c k d) (l.map (easeS r))
        refine E.GL.run rfl rfl rfl (E.Runs.pick_f rfl rfl rfl) ?_
        refine E.GL.done ?_
        refine E.QG.code ?_
        refine E.CG.cond_f rfl ?_
        refine E.CG.skip ?_
        refine E.QG.code ?_
        refine E.CG.seq ?_
        refine E.CG.cut2 (fun (g7 : Nat) (v8 : Value) => [(1, .slice A1 l.length c1), (3, .pointer (some ⟨g3, 0, none⟩)), (5, .pointer (some ⟨g5, 0, none⟩)), (7, .pointer (some ⟨g7, 0, none⟩)), (8, v8)]) (fun g7 v8 w' => w'.heap[g7]? = some (.cells #[.int .i64 H.teams, .int .i64 H.walk, .int .i64 H.early, .int .i64 H.foyer, .int .i64 H.dl, .int .i64 H.dh, .int .i64 H.cl, .int .i64 H.ch] 25 (0, 0)) ∧ Kd.R k36 36 w' w.heap.size (fun _ => True) v8 l ∧ w'.heap[g3]? = some (.cells #[.int .i64 H.teams, .int .i64 H.walk, .int .i64 H.early, .int .i64 H.foyer, .int .i64 H.dl, .int .i64 H.dh, .int .i64 H.cl, .int .i64 H.ch] 25 (0, 0)) ∧ w'.heap[g5]? = some (.cells #[.int .i64 r, .int .i64 c, .int .i64 k, .int .i64 d] 59 (0, 0)) ∧ g3 ≠ g7 ∧ g5 ≠ g7 ∧ w.heap.size ≤ g7 ∧ Below w.heap.size w w') ?_ ?_
        · refine E.CG.heldH (none) (by kernel_rfl) fun v3 lD hh => ?_
          replace b3 := blk_below b3 lD
          replace b5 := blk_below b5 lD
          replace L := below_step L lD
          clear lD
          have s_b3 := b3
          have s_b5 := b5
          have s_L := L
          refine E.GH.take (i := 0) rfl (by kernel_rfl) (by kernel_rfl) (by kernel_rfl) E.calm_cut2 rfl rfl rfl (fun w' hS => (E.Runs.loads (cs := [.int .i64 H.teams, .int .i64 H.walk, .int .i64 H.early, .int .i64 H.foyer, .int .i64 H.dl, .int .i64 H.dh, .int .i64 H.cl, .int .i64 H.ch]) rfl rfl hu25 rfl info25s (blk_cells (blk_grown s_b3 hS E.nen)))) ?_
          refine E.GH.take (i := 1) rfl (by kernel_rfl) (by kernel_rfl) (by kernel_rfl) E.calm_cut2 rfl rfl rfl (fun w' hS => (E.Runs.move rfl rfl)) ?_
          refine E.GH.all (rs := [2, 3]) (by kernel_rfl) (by simp) (E.GHs.cons rfl ?_ (E.GHs.cons rfl ?_ E.GHs.nil))
          · refine E.GO.st rfl rfl rfl (E.ST.call rfl ent18 (E.evc rfl E.evn) ((copied_low l A1 c1 _ w.heap.size (by omega) (Kd.C_below hr L) hc L.size).mono ?_))
            rintro e w52 ⟨v8, rfl, R8, l52⟩
            refine ⟨_, rfl, hh.trans (E.gbB l52), ?_⟩
            replace hh := hh.trans (E.gbB l52)
            replace b3 := blk_below b3 l52
            replace b5 := blk_below b5 l52
            replace L := below_step L l52
            refine E.GH.one (i := 3) (by kernel_rfl) rfl ?_
            refine E.GO.st rfl rfl rfl (E.ST.alloc rfl info25z fun g7 w7 e7 b7 l7 => ⟨hh.trans (E.gbB l7), ?_⟩)
            have hh0 := hh
            replace hh := hh.trans (E.gbB l7)
            have h7_hh : v3.heap.size ≤ g7 := by rw [e7]; exact hh0.size
            have h7_L : w.heap.size ≤ g7 := by rw [e7]; exact L.size
            have n7_b3 : g3 ≠ g7 := by have := blk_lt b3; omega
            have n7_b5 : g5 ≠ g7 := by have := blk_lt b5; omega
            have n7_R8 : some g7 ≠ (v8).ownBlock := fun h => by have := Kd.R_lt R8 _ h.symm; omega
            clear hh0
            replace b3 := blk_below b3 l7
            replace b5 := blk_below b5 l7
            replace R8 := Kd.R_below R8 l7
            replace L := below_step L l7
            refine E.GH.one (i := 4) (by kernel_rfl) rfl ?_
            refine E.GO.sn rfl rfl (E.ST.storeS (off := 0) (cells := [.int .i64 H.teams, .int .i64 H.walk, .int .i64 H.early, .int .i64 H.foyer, .int .i64 H.dl, .int .i64 H.dh, .int .i64 H.cl, .int .i64 H.ch]) rfl rfl rfl b7 rfl info25s (eight_one _ _ _ _ _ _ _ _) rfl fun wS3_4 c7 lS3_4 => ⟨E.gb_own hh h7_hh lS3_4, ?_⟩)
            replace hh := E.gb_own hh h7_hh lS3_4
            replace b3 := blk_grown b3 lS3_4 (E.nes (by first | assumption | exact Ne.symm (by assumption)))
            replace b5 := blk_grown b5 lS3_4 (E.nes (by first | assumption | exact Ne.symm (by assumption)))
            replace R8 := Kd.R_grown1 R8 rfl lS3_4 (by first | assumption | exact Kd.R_ne R8 b7 (by decide))
            replace L := E.below_own L h7_L lS3_4
            replace b7 := c7
            clear c7
            refine E.GH.take (i := 5) rfl (by kernel_rfl) (by kernel_rfl) (by kernel_rfl) E.calm_cut2 rfl rfl rfl (fun w' hS => (E.Runs.assign rfl rfl)) ?_
            refine E.GH.done (by kernel_rfl) ?_
            exact E.QG.meet2 _ _ (E.subc rfl (E.subc rfl (E.subc rfl (E.subc rfl (E.subc rfl (E.subn)))))) ⟨b7, R8, b3, b5, n7_b3, n7_b5, h7_L, L⟩
          · refine E.GO.st rfl rfl rfl (E.ST.alloc rfl info25z fun g7 w7 e7 b7 l7 => ⟨hh.trans (E.gbB l7), ?_⟩)
            have hh0 := hh
            replace hh := hh.trans (E.gbB l7)
            have h7_hh : v3.heap.size ≤ g7 := by rw [e7]; exact hh0.size
            have h7_L : w.heap.size ≤ g7 := by rw [e7]; exact L.size
            have n7_b3 : g3 ≠ g7 := by have := blk_lt b3; omega
            have n7_b5 : g5 ≠ g7 := by have := blk_lt b5; omega
            clear hh0
            replace b3 := blk_below b3 l7
            replace b5 := blk_below b5 l7
            replace L := below_step L l7
            refine E.GH.one (i := 2) (by kernel_rfl) rfl ?_
            refine E.GO.st rfl rfl rfl (E.ST.call rfl ent18 (E.evc rfl E.evn) ((copied_low l A1 c1 _ w.heap.size (by omega) (Kd.C_below hr L) hc L.size).mono ?_))
            rintro e w52 ⟨v8, rfl, R8, l52⟩
            refine ⟨_, rfl, hh.trans (E.gbB l52), ?_⟩
            replace hh := hh.trans (E.gbB l52)
            replace b3 := blk_below b3 l52
            replace b5 := blk_below b5 l52
            replace b7 := blk_below b7 l52
            replace L := below_step L l52
            refine E.GH.one (i := 4) (by kernel_rfl) rfl ?_
            refine E.GO.sn rfl rfl (E.ST.storeS (off := 0) (cells := [.int .i64 H.teams, .int .i64 H.walk, .int .i64 H.early, .int .i64 H.foyer, .int .i64 H.dl, .int .i64 H.dh, .int .i64 H.cl, .int .i64 H.ch]) rfl rfl rfl b7 rfl info25s (eight_one _ _ _ _ _ _ _ _) rfl fun wS3_4 c7 lS3_4 => ⟨E.gb_own hh h7_hh lS3_4, ?_⟩)
            replace hh := E.gb_own hh h7_hh lS3_4
            replace b3 := blk_grown b3 lS3_4 (E.nes (by first | assumption | exact Ne.symm (by assumption)))
            replace b5 := blk_grown b5 lS3_4 (E.nes (by first | assumption | exact Ne.symm (by assumption)))
            replace R8 := Kd.R_grown1 R8 rfl lS3_4 (by first | assumption | exact Kd.R_ne R8 b7 (by decide))
            replace L := E.below_own L h7_L lS3_4
            replace b7 := c7
            clear c7
            refine E.GH.take (i := 5) rfl (by kernel_rfl) (by kernel_rfl) (by kernel_rfl) E.calm_cut2 rfl rfl rfl (fun w' hS => (E.Runs.assign rfl rfl)) ?_
            refine E.GH.done (by kernel_rfl) ?_
            exact E.QG.meet2 _ _ (E.subc rfl (E.subc rfl (E.subc rfl (E.subc rfl (E.subc rfl (E.subn)))))) ⟨b7, R8, b3, b5, n7_b3, n7_b5, h7_L, L⟩
        clear b3 b5 L
        intro g7 v8 w3 ⟨b7, R8, b3, b5, n7_b3, n7_b5, h7_L, L⟩
        refine E.QG.code ?_
        refine E.CG.seq ?_
        refine E.CG.list ?_
        refine E.GL.run rfl rfl rfl (E.Runs.fieldAddr rfl rfl hu25 rfl (by assumption) rfl) ?_
        refine E.GL.run rfl rfl rfl (E.Runs.load rfl rfl hu3 (by first | assumption | exact E.blkc (by assumption) rfl | exact pw_cell_below L (by assumption))) ?_
        refine E.GL.run rfl rfl rfl (E.Runs.fieldAddr rfl rfl hu59 rfl (by assumption) rfl) ?_
        refine E.GL.run rfl rfl rfl (E.Runs.load rfl rfl hu3 (by first | assumption | exact E.blkc (by assumption) rfl | exact pw_cell_below L (by assumption))) ?_
        refine E.GL.run rfl rfl rfl (E.Runs.sub rfl rfl rfl (IntWalk.i64_in _ (by omega))) ?_
        refine E.GL.run rfl rfl rfl (E.Runs.max rfl rfl rfl rfl) ?_
        refine E.GL.run rfl rfl rfl (E.Runs.fieldAddr rfl rfl hu25 rfl (by assumption) rfl) ?_
        refine E.GL.sn rfl rfl (E.ST.store rfl (by assumption) (by assumption) rfl rfl b7 rfl (show _ = #[.int .i64 H.teams, .int .i64 (mx 0 (H.walk - k)), .int .i64 H.early, .int .i64 H.foyer, .int .i64 H.dl, .int .i64 H.dh, .int .i64 H.cl, .int .i64 H.ch] from rfl) fun wS4_7 c7 lS4_7 => ?_)
        replace b3 := blk_grown b3 lS4_7 (E.nes (by first | assumption | exact Ne.symm (by assumption)))
        replace b5 := blk_grown b5 lS4_7 (E.nes (by first | assumption | exact Ne.symm (by assumption)))
        replace R8 := Kd.R_grown1 R8 rfl lS4_7 (by first | assumption | exact Kd.R_ne R8 b7 (by decide))
        replace L := E.below_own L h7_L lS4_7
        replace b7 := c7
        clear c7
        refine E.GL.done ?_
        refine E.QG.code ?_
        refine E.CG.seq ?_
        refine E.CG.list ?_
        refine E.GL.run rfl rfl rfl (E.Runs.fieldAddr rfl rfl hu25 rfl (by assumption) rfl) ?_
        refine E.GL.run rfl rfl rfl (E.Runs.fieldAddr rfl rfl hu23 rfl (by assumption) rfl) ?_
        refine E.GL.run rfl rfl rfl (E.Runs.load rfl rfl hu3 (by first | assumption | exact E.blkc (by assumption) rfl | exact pw_cell_below L (by assumption))) ?_
        refine E.GL.run rfl rfl rfl (E.Runs.fieldAddr rfl rfl hu59 rfl (by assumption) rfl) ?_
        refine E.GL.run rfl rfl rfl (E.Runs.load rfl rfl hu3 (by first | assumption | exact E.blkc (by assumption) rfl | exact pw_cell_below L (by assumption))) ?_
        refine E.GL.run rfl rfl rfl (E.Runs.sub rfl rfl rfl (IntWalk.i64_in _ (by omega))) ?_
        refine E.GL.run rfl rfl rfl (E.Runs.max rfl rfl rfl rfl) ?_
        refine E.GL.run rfl rfl rfl (E.Runs.fieldAddr rfl rfl hu25 rfl (by assumption) rfl) ?_
        refine E.GL.run rfl rfl rfl (E.Runs.fieldAddr rfl rfl hu23 rfl (by assumption) rfl) ?_
        refine E.GL.run rfl rfl rfl (E.Runs.load rfl rfl hu3 (by first | assumption | exact E.blkc (by assumption) rfl | exact pw_cell_below L (by assumption))) ?_
        refine E.GL.run rfl rfl rfl (E.Runs.fieldAddr rfl rfl hu59 rfl (by assumption) rfl) ?_
        refine E.GL.run rfl rfl rfl (E.Runs.load rfl rfl hu3 (by first | assumption | exact E.blkc (by assumption) rfl | exact pw_cell_below L (by assumption))) ?_
        refine E.GL.run rfl rfl rfl (E.Runs.sub rfl rfl rfl (IntWalk.i64_in _ (by omega))) ?_
        refine E.GL.run rfl rfl rfl (E.Runs.max rfl rfl rfl rfl) ?_
        refine E.GL.run rfl rfl rfl (E.Runs.build rfl (E.epc rfl (E.epc rfl E.epn)) (build23 _ _)) ?_
        refine E.GL.run rfl rfl rfl (E.Runs.fieldAddr rfl rfl hu25 rfl (by assumption) rfl) ?_
        refine E.GL.sn rfl rfl (E.ST.storeS (off := 6) (cells := [.int .i64 (mx 1 (H.cl - c)), .int .i64 (mx 1 (H.ch - c))]) rfl rfl rfl b7 rfl info23s (two_one _ _) (show _ = [.int .i64 H.teams, .int .i64 (mx 0 (H.walk - k)), .int .i64 H.early, .int .i64 H.foyer, .int .i64 H.dl, .int .i64 H.dh, .int .i64 (mx 1 (H.cl - c)), .int .i64 (mx 1 (H.ch - c))] from rfl) fun wS5_16 c7 lS5_16 => ?_)
        replace b3 := blk_grown b3 lS5_16 (E.nes (by first | assumption | exact Ne.symm (by assumption)))
        replace b5 := blk_grown b5 lS5_16 (E.nes (by first | assumption | exact Ne.symm (by assumption)))
        replace R8 := Kd.R_grown1 R8 rfl lS5_16 (by first | assumption | exact Kd.R_ne R8 b7 (by decide))
        replace L := E.below_own L h7_L lS5_16
        replace b7 := c7
        clear c7
        refine E.GL.done ?_
        refine E.QG.code ?_
        refine E.CG.seq ?_
        refine E.CG.list ?_
        refine E.GL.run rfl rfl rfl (E.Runs.fieldAddr rfl rfl hu25 rfl (by assumption) rfl) ?_
        refine E.GL.run rfl rfl rfl (E.Runs.fieldAddr rfl rfl hu23 rfl (by assumption) rfl) ?_
        refine E.GL.run rfl rfl rfl (E.Runs.load rfl rfl hu3 (by first | assumption | exact E.blkc (by assumption) rfl | exact pw_cell_below L (by assumption))) ?_
        refine E.GL.run rfl rfl rfl (E.Runs.fieldAddr rfl rfl hu59 rfl (by assumption) rfl) ?_
        refine E.GL.run rfl rfl rfl (E.Runs.load rfl rfl hu3 (by first | assumption | exact E.blkc (by assumption) rfl | exact pw_cell_below L (by assumption))) ?_
        refine E.GL.run rfl rfl rfl (E.Runs.add rfl rfl rfl (IntWalk.i64_in _ (by omega))) ?_
        refine E.GL.run rfl rfl rfl (E.Runs.min rfl rfl rfl rfl) ?_
        refine E.GL.run rfl rfl rfl (E.Runs.fieldAddr rfl rfl hu25 rfl (by assumption) rfl) ?_
        refine E.GL.run rfl rfl rfl (E.Runs.fieldAddr rfl rfl hu23 rfl (by assumption) rfl) ?_
        refine E.GL.run rfl rfl rfl (E.Runs.load rfl rfl hu3 (by first | assumption | exact E.blkc (by assumption) rfl | exact pw_cell_below L (by assumption))) ?_
        refine E.GL.run rfl rfl rfl (E.Runs.fieldAddr rfl rfl hu59 rfl (by assumption) rfl) ?_
        refine E.GL.run rfl rfl rfl (E.Runs.load rfl rfl hu3 (by first | assumption | exact E.blkc (by assumption) rfl | exact pw_cell_below L (by assumption))) ?_
        refine E.GL.run rfl rfl rfl (E.Runs.add rfl rfl rfl (IntWalk.i64_in _ (by omega))) ?_
        refine E.GL.run rfl rfl rfl (E.Runs.min rfl rfl rfl rfl) ?_
        refine E.GL.run rfl rfl rfl (E.Runs.build rfl (E.epc rfl (E.epc rfl E.epn)) (build23 _ _)) ?_
        refine E.GL.run rfl rfl rfl (E.Runs.fieldAddr rfl rfl hu25 rfl (by assumption) rfl) ?_
        refine E.GL.sn rfl rfl (E.ST.storeS (off := 4) (cells := [.int .i64 (mn 100 (H.dl + d)), .int .i64 (mn 100 (H.dh + d))]) rfl rfl rfl b7 rfl info23s (two_one _ _) (show _ = [.int .i64 H.teams, .int .i64 (mx 0 (H.walk - k)), .int .i64 H.early, .int .i64 H.foyer, .int .i64 (mn 100 (H.dl + d)), .int .i64 (mn 100 (H.dh + d)), .int .i64 (mx 1 (H.cl - c)), .int .i64 (mx 1 (H.ch - c))] from rfl) fun wS6_16 c7 lS6_16 => ?_)
        replace b3 := blk_grown b3 lS6_16 (E.nes (by first | assumption | exact Ne.symm (by assumption)))
        replace b5 := blk_grown b5 lS6_16 (E.nes (by first | assumption | exact Ne.symm (by assumption)))
        replace R8 := Kd.R_grown1 R8 rfl lS6_16 (by first | assumption | exact Kd.R_ne R8 b7 (by decide))
        replace L := E.below_own L h7_L lS6_16
        replace b7 := c7
        clear c7
        refine E.GL.done ?_
        refine E.QG.code ?_
        refine E.CG.seq ?_
        refine E.CG.seq ?_
        refine E.CG.list ?_
        refine E.GL.run rfl rfl rfl (E.Runs.assign rfl rfl) ?_
        refine E.GL.done ?_
        refine E.QG.code ?_
        refine E.CG.block ?_
        obtain ⟨A8, c8, h8⟩ := Kd.R_slice R8
        subst h8
        have s8_b3 := b3
        have s8_b5 := b5
        have s8_b7 := b7
        have s8_L := L
        refine E.CG.loop (fun (i : Nat) => [(1, .slice A1 l.length c1), (3, .pointer (some ⟨g3, 0, none⟩)), (5, .pointer (some ⟨g5, 0, none⟩)), (7, .pointer (some ⟨g7, 0, none⟩)), (8, .slice A8 l.length c8), (9, .int .i64 i)]) (fun i w' => i ≤ l.length ∧ Kd.R k36 36 w' w.heap.size (fun _ => True) (.slice A8 l.length c8) ((l.map (easeS r)).take i ++ l.drop i) ∧ w'.heap[g3]? = some (.cells #[.int .i64 H.teams, .int .i64 H.walk, .int .i64 H.early, .int .i64 H.foyer, .int .i64 H.dl, .int .i64 H.dh, .int .i64 H.cl, .int .i64 H.ch] 25 (0, 0)) ∧ w'.heap[g5]? = some (.cells #[.int .i64 r, .int .i64 c, .int .i64 k, .int .i64 d] 59 (0, 0)) ∧ w'.heap[g7]? = some (.cells #[.int .i64 H.teams, .int .i64 (mx 0 (H.walk - k)), .int .i64 H.early, .int .i64 H.foyer, .int .i64 (mn 100 (H.dl + d)), .int .i64 (mn 100 (H.dh + d)), .int .i64 (mx 1 (H.cl - c)), .int .i64 (mx 1 (H.ch - c))] 25 (0, 0)) ∧ Below w.heap.size w w') (fun i => l.length - i) 0 (E.subc rfl (E.subc rfl (E.subc rfl (E.subc rfl (E.subc rfl (E.subc rfl (E.subn))))))) ⟨Nat.zero_le _, by simpa using R8, b3, b5, b7, L⟩ ?_
        rintro i w8 ⟨hi, R8, b3, b5, b7, L⟩
        refine E.CG.seq ?_
        refine E.CG.seq ?_
        refine E.CG.list ?_
        refine E.GL.run rfl rfl rfl (E.Runs.move rfl rfl) ?_
        refine E.GL.run rfl rfl rfl (E.Runs.move rfl rfl) ?_
        refine E.GL.run rfl rfl rfl (E.Runs.len rfl rfl hu26) ?_
        refine E.GL.cmp rfl rfl rfl (fun _ h => (E.Runs.lss rfl rfl rfl h)) (fun h95 => ?_) (fun h95 => ?_)
        · have hlt : i < l.length := by omega
          obtain ⟨s, hs⟩ : ∃ s, l[i]? = some s := ⟨_, List.getElem?_eq_getElem hlt⟩
          have SI := (valid_slots h23 s (List.mem_of_getElem? hs)).1.2.1
          refine E.GL.done ?_
          refine E.QG.code ?_
          refine E.CG.cond_t rfl ?_
          refine E.CG.skip ?_
          refine E.QG.code ?_
          refine E.CG.seq ?_
          refine E.CG.block ?_
          refine E.CG.heldJ 25 (fun v W => v.grownBy W none) (fun _ _ => True) (by kernel_rfl) (by kernel_rfl) (fun v => World.grownBy.refl _ _) fun v10 lD => ?_
          replace b3 := blk_below b3 lD
          replace b5 := blk_below b5 lD
          replace b7 := blk_below b7 lD
          replace L := below_step L lD
          have lD10 := lD
          clear lD
          replace R8 := Kd.R_below R8 lD10
          obtain ⟨g8, eA8, hg8, cr8, th8, st8⟩ := row36_at R8 (upd_at hs)
          have s_b3 := b3
          have s_b5 := b5
          have s_b7 := b7
          have s_L := L
          refine E.GJ.take1 (i := 0) rfl (by kernel_rfl) (by kernel_rfl) (by kernel_rfl) (by kernel_rfl) rfl (by kernel_rfl) (by kernel_rfl) (by intro c a d v w h; cases d <;> exact h) rfl rfl rfl (fun w' hS => (E.Runs.move rfl rfl)) ?_
          refine E.GJ.take1 (i := 1) rfl (by kernel_rfl) (by kernel_rfl) (by kernel_rfl) (by kernel_rfl) rfl (by kernel_rfl) (by kernel_rfl) (by intro c a d v w h; cases d <;> exact h) rfl rfl rfl (fun w' hS => (E.Runs.move rfl rfl)) ?_
          refine E.GJ.take1 (i := 2) rfl (by kernel_rfl) (by kernel_rfl) (by kernel_rfl) (by kernel_rfl) rfl (by kernel_rfl) (by kernel_rfl) (by intro c a d v w h; cases d <;> exact h) rfl rfl rfl (fun w' hS => (E.Runs.move rfl rfl)) ?_
          refine E.GJ.take1 (i := 3) rfl (by kernel_rfl) (by kernel_rfl) (by kernel_rfl) (by kernel_rfl) rfl (by kernel_rfl) (by kernel_rfl) (by intro c a d v w h; cases d <;> exact h) rfl rfl rfl (fun w' hS => (E.Runs.move rfl rfl)) ?_
          refine E.GJ.take1 (i := 4) rfl (by kernel_rfl) (by kernel_rfl) (by kernel_rfl) (by kernel_rfl) rfl (by kernel_rfl) (by kernel_rfl) (by intro c a d v w h; cases d <;> exact h) rfl rfl rfl (fun w' hS => (E.Runs.indexAddrA rfl rfl rfl hu26 (by assumption) (by assumption) (by assumption) (by first | rfl | assumption) (show _ = (⟨g8, i * 6, none⟩ : Addr) from by rw [Go.Addr.add_mid, Nat.zero_add]))) ?_
          refine E.GJ.take1 (i := 5) rfl (by kernel_rfl) (by kernel_rfl) (by kernel_rfl) (by kernel_rfl) rfl (by kernel_rfl) (by kernel_rfl) (by intro c a d v w h; cases d <;> exact h) rfl rfl rfl (fun w' hS => (E.Runs.fieldAddr rfl rfl hu36 rfl (by assumption) rfl)) ?_
          refine E.GJ.take1 (i := 6) rfl (by kernel_rfl) (by kernel_rfl) (by kernel_rfl) (by kernel_rfl) rfl (by kernel_rfl) (by kernel_rfl) (by intro c a d v w h; cases d <;> exact h) rfl rfl rfl (fun w' hS => (E.Runs.fieldAddr rfl rfl hu23 rfl (by assumption) rfl)) ?_
          refine E.GJ.take1 (i := 7) rfl (by kernel_rfl) (by kernel_rfl) (by kernel_rfl) (by kernel_rfl) rfl (by kernel_rfl) (by kernel_rfl) (by intro c a d v w h; cases d <;> exact h) rfl rfl rfl (fun w' hS => (E.Runs.load rfl rfl hu3 (E.keeps hS (cr8 2 _ rfl) E.nen))) ?_
          refine E.GJ.take1 (i := 8) rfl (by kernel_rfl) (by kernel_rfl) (by kernel_rfl) (by kernel_rfl) rfl (by kernel_rfl) (by kernel_rfl) (by intro c a d v w h; cases d <;> exact h) rfl rfl rfl (fun w' hS => (E.Runs.fieldAddr rfl rfl hu59 rfl (by assumption) rfl)) ?_
          refine E.GJ.take1 (i := 9) rfl (by kernel_rfl) (by kernel_rfl) (by kernel_rfl) (by kernel_rfl) rfl (by kernel_rfl) (by kernel_rfl) (by intro c a d v w h; cases d <;> exact h) rfl rfl rfl (fun w' hS => (E.Runs.load rfl rfl hu3 (by first | exact E.keeps hS (E.blkc (by assumption) rfl) (by first | exact E.nen | exact E.nes (by assumption) | exact E.nes (Ne.symm (by assumption))) | exact pw_cell_below (below_step s_L (E.belowG hS)) (by assumption)))) ?_
          refine E.GJ.take1 (i := 10) rfl (by kernel_rfl) (by kernel_rfl) (by kernel_rfl) (by kernel_rfl) rfl (by kernel_rfl) (by kernel_rfl) (by intro c a d v w h; cases d <;> exact h) rfl rfl rfl (fun w' hS => (E.Runs.sub rfl rfl rfl (IntWalk.i64_in _ (by omega)))) ?_
          refine E.GJ.take1 (i := 11) rfl (by kernel_rfl) (by kernel_rfl) (by kernel_rfl) (by kernel_rfl) rfl (by kernel_rfl) (by kernel_rfl) (by intro c a d v w h; cases d <;> exact h) rfl rfl rfl (fun w' hS => (E.Runs.max rfl rfl rfl rfl)) ?_
          refine E.GJ.take1 (i := 12) rfl (by kernel_rfl) (by kernel_rfl) (by kernel_rfl) (by kernel_rfl) rfl (by kernel_rfl) (by kernel_rfl) (by intro c a d v w h; cases d <;> exact h) rfl rfl rfl (fun w' hS => (E.Runs.move rfl rfl)) ?_
          refine E.GJ.take1 (i := 13) rfl (by kernel_rfl) (by kernel_rfl) (by kernel_rfl) (by kernel_rfl) rfl (by kernel_rfl) (by kernel_rfl) (by intro c a d v w h; cases d <;> exact h) rfl rfl rfl (fun w' hS => (E.Runs.move rfl rfl)) ?_
          refine E.GJ.take1 (i := 14) rfl (by kernel_rfl) (by kernel_rfl) (by kernel_rfl) (by kernel_rfl) rfl (by kernel_rfl) (by kernel_rfl) (by intro c a d v w h; cases d <;> exact h) rfl rfl rfl (fun w' hS => (E.Runs.indexAddrA rfl rfl rfl hu26 (by assumption) (by assumption) (by assumption) (by first | rfl | assumption) (show _ = (⟨g8, i * 6, none⟩ : Addr) from by rw [Go.Addr.add_mid, Nat.zero_add]))) ?_
          refine E.GJ.take1 (i := 15) rfl (by kernel_rfl) (by kernel_rfl) (by kernel_rfl) (by kernel_rfl) rfl (by kernel_rfl) (by kernel_rfl) (by intro c a d v w h; cases d <;> exact h) rfl rfl rfl (fun w' hS => (E.Runs.fieldAddr rfl rfl hu36 rfl (by assumption) rfl)) ?_
          refine E.GJ.take1 (i := 16) rfl (by kernel_rfl) (by kernel_rfl) (by kernel_rfl) (by kernel_rfl) rfl (by kernel_rfl) (by kernel_rfl) (by intro c a d v w h; cases d <;> exact h) rfl rfl rfl (fun w' hS => (E.Runs.fieldAddr rfl rfl hu23 rfl (by assumption) rfl)) ?_
          refine E.GJ.take1 (i := 17) rfl (by kernel_rfl) (by kernel_rfl) (by kernel_rfl) (by kernel_rfl) rfl (by kernel_rfl) (by kernel_rfl) (by intro c a d v w h; cases d <;> exact h) rfl rfl rfl (fun w' hS => (E.Runs.load rfl rfl hu3 (E.keeps hS (cr8 3 _ rfl) E.nen))) ?_
          refine E.GJ.take1 (i := 18) rfl (by kernel_rfl) (by kernel_rfl) (by kernel_rfl) (by kernel_rfl) rfl (by kernel_rfl) (by kernel_rfl) (by intro c a d v w h; cases d <;> exact h) rfl rfl rfl (fun w' hS => (E.Runs.fieldAddr rfl rfl hu59 rfl (by assumption) rfl)) ?_
          refine E.GJ.take1 (i := 19) rfl (by kernel_rfl) (by kernel_rfl) (by kernel_rfl) (by kernel_rfl) rfl (by kernel_rfl) (by kernel_rfl) (by intro c a d v w h; cases d <;> exact h) rfl rfl rfl (fun w' hS => (E.Runs.load rfl rfl hu3 (by first | exact E.keeps hS (E.blkc (by assumption) rfl) (by first | exact E.nen | exact E.nes (by assumption) | exact E.nes (Ne.symm (by assumption))) | exact pw_cell_below (below_step s_L (E.belowG hS)) (by assumption)))) ?_
          refine E.GJ.take1 (i := 20) rfl (by kernel_rfl) (by kernel_rfl) (by kernel_rfl) (by kernel_rfl) rfl (by kernel_rfl) (by kernel_rfl) (by intro c a d v w h; cases d <;> exact h) rfl rfl rfl (fun w' hS => (E.Runs.sub rfl rfl rfl (IntWalk.i64_in _ (by omega)))) ?_
          refine E.GJ.take1 (i := 21) rfl (by kernel_rfl) (by kernel_rfl) (by kernel_rfl) (by kernel_rfl) rfl (by kernel_rfl) (by kernel_rfl) (by intro c a d v w h; cases d <;> exact h) rfl rfl rfl (fun w' hS => (E.Runs.max rfl rfl rfl rfl)) ?_
          refine E.GJ.take1 (i := 22) rfl (by kernel_rfl) (by kernel_rfl) (by kernel_rfl) (by kernel_rfl) rfl (by kernel_rfl) (by kernel_rfl) (by intro c a d v w h; cases d <;> exact h) rfl rfl rfl (fun w' hS => (E.Runs.build rfl (E.epc rfl (E.epc rfl E.epn)) (build23 _ _))) ?_
          refine E.GJ.take2 (i := 23) rfl (by kernel_rfl) (by kernel_rfl) (by kernel_rfl) (by kernel_rfl) (by intro c a d v w h; cases d <;> exact h) rfl rfl rfl (fun w' hS => (E.Runs.indexAddrA rfl rfl rfl hu26 (by assumption) (by assumption) (by assumption) (by first | rfl | assumption) (show _ = (⟨g8, i * 6, none⟩ : Addr) from by rw [Go.Addr.add_mid, Nat.zero_add]))) ?_
          refine E.GJ.take2 (i := 24) rfl (by kernel_rfl) (by kernel_rfl) (by kernel_rfl) (by kernel_rfl) (by intro c a d v w h; cases d <;> exact h) rfl rfl rfl (fun w' hS => (E.Runs.fieldAddr rfl rfl hu36 rfl (by assumption) rfl)) ?_
          refine E.GJ.one (i := 25) (by kernel_rfl) (E.OJ.sn rfl rfl rfl (E.ST.storeMid (g := g8) (off := i * 6 + 2) (cells := [.int .i64 (mx 1 (s.f2.f0 - r)), .int .i64 (mx 1 (s.f2.f1 - r))]) rfl rfl rfl th8 info23s (two_one _ _) ⟨(E.SJ.behind (by kernel_rfl)).mpr trivial, ?_⟩))
          obtain ⟨wJ, hwJ⟩ : ∃ wJ, wJ = World.setCells v10 g8 (i * 6 + 2) [.int .i64 (mx 1 (s.f2.f0 - r)), .int .i64 (mx 1 (s.f2.f1 - r))] := ⟨_, rfl⟩
          obtain ⟨RJ, gJ⟩ := st8 (mx 1 (s.f2.f0 - r)) (mx 1 (s.f2.f1 - r))
          rw [← hwJ] at RJ gJ
          rw [← hwJ]
          replace b3 := blk_grown b3 gJ (fun e => Kd.R_ne R8 b3 (by decide) (by rw [e, eA8]; rfl))
          replace b5 := blk_grown b5 gJ (fun e => Kd.R_ne R8 b5 (by decide) (by rw [e, eA8]; rfl))
          replace b7 := blk_grown b7 gJ (fun e => Kd.R_ne R8 b7 (by decide) (by rw [e, eA8]; rfl))
          replace L := E.below_own L hg8 gJ
          replace R8 := RJ
          refine E.GJ.done (by kernel_rfl) ?_
          refine E.QG.block_normal ?_
          refine E.QG.code ?_
          refine E.CG.list ?_
          refine E.GL.run rfl rfl rfl (E.Runs.move rfl rfl) ?_
          refine E.GL.run rfl rfl rfl (E.Runs.add rfl rfl rfl (IntWalk.i64_in _ (by omega))) ?_
          refine E.GL.run rfl rfl rfl (E.Runs.assign rfl rfl) ?_
          refine E.GL.done ?_
          exact E.QG.round (i + 1) (E.subc rfl (E.subc rfl (E.subc rfl (E.subc rfl (E.subc rfl (E.subc rfl E.subn)))))) ⟨by omega, by rw [← upd_step hs]; exact R8, b3, b5, b7, L⟩ (by omega)
        · obtain rfl : i = l.length := by omega
          rw [List.take_of_length_le (by simp), List.drop_eq_nil_of_le (Nat.le_refl _), List.append_nil] at R8
          obtain ⟨hq8, hc8, C8⟩ := Kd.R_reads' R8
          rw [← hq8] at C8
          refine E.GL.done ?_
          refine E.QG.code ?_
          refine E.CG.cond_f rfl ?_
          refine E.CG.exit ?_
          refine E.QG.pass_exit ?_
          refine E.QG.pass_exit ?_
          refine E.QG.block_here ?_
          refine E.QG.code ?_
          refine E.CG.seq ?_
          refine E.CG.list ?_
          refine E.GL.run rfl rfl rfl (E.Runs.loads (cs := [.int .i64 H.teams, .int .i64 H.walk, .int .i64 H.early, .int .i64 H.foyer, .int .i64 H.dl, .int .i64 H.dh, .int .i64 H.cl, .int .i64 H.ch]) rfl rfl hu25 rfl info25s (blk_cells b3)) ?_
          refine E.GL.run rfl rfl rfl (E.Runs.move rfl rfl) ?_
          refine E.GL.st rfl rfl rfl (E.ST.call rfl ent15 (E.evc rfl (E.evc rfl E.evn)) ((times_reads H l A1 c1 _ h23 (Kd.C_below hr L) hc).mono ?_))
          rintro e w126 ⟨Am, cm, rfl, km, l126⟩
          refine ⟨_, rfl, ?_⟩
          replace b3 := blk_below b3 l126
          replace b5 := blk_below b5 l126
          replace b7 := blk_below b7 l126
          replace L := below_step L l126
          have lm := Below.refl w126.heap.size w126
          replace C8 := Kd.C_below C8 l126
          refine E.GL.run rfl rfl rfl (E.Runs.move rfl rfl) ?_
          refine E.GL.run rfl rfl rfl (E.Runs.extract rfl rfl rfl) ?_
          refine E.GL.run rfl rfl rfl (E.Runs.extract rfl rfl rfl) ?_
          refine E.GL.run rfl rfl rfl (E.Runs.assign rfl rfl) ?_
          refine E.GL.run rfl rfl rfl (E.Runs.assign rfl rfl) ?_
          refine E.GL.done ?_
          refine E.QG.code ?_
          refine E.CG.seq ?_
          refine E.CG.list ?_
          refine E.GL.run rfl rfl rfl (E.Runs.loads (cs := [.int .i64 H.teams, .int .i64 (mx 0 (H.walk - k)), .int .i64 H.early, .int .i64 H.foyer, .int .i64 (mn 100 (H.dl + d)), .int .i64 (mn 100 (H.dh + d)), .int .i64 (mx 1 (H.cl - c)), .int .i64 (mx 1 (H.ch - c))]) rfl rfl hu25 rfl info25s (blk_cells b7)) ?_
          refine E.GL.run rfl rfl rfl (E.Runs.move rfl rfl) ?_
          refine E.GL.st rfl rfl rfl (E.ST.call rfl ent15 (E.evc rfl (E.evc rfl E.evn)) ((times_reads' (easeH H c k d) (l.map (easeS r)) l.length A8 c8 _ (by simp) VX C8 hc8).mono ?_))
          rintro e w132 ⟨An, cn, rfl, kn, l132⟩
          refine ⟨_, rfl, ?_⟩
          replace b3 := blk_below b3 l132
          replace b5 := blk_below b5 l132
          replace b7 := blk_below b7 l132
          replace L := below_step L l132
          replace lm := below_step lm l132
          have ln := Below.refl w132.heap.size w132
          replace C8 := Kd.C_below C8 l132
          refine E.GL.run rfl rfl rfl (E.Runs.move rfl rfl) ?_
          refine E.GL.run rfl rfl rfl (E.Runs.extract rfl rfl rfl) ?_
          refine E.GL.run rfl rfl rfl (E.Runs.extract rfl rfl rfl) ?_
          refine E.GL.run rfl rfl rfl (E.Runs.assign rfl rfl) ?_
          refine E.GL.run rfl rfl rfl (E.Runs.assign rfl rfl) ?_
          refine E.GL.done ?_
          refine E.QG.code ?_
          refine E.CG.seq ?_
          refine E.CG.list ?_
          refine E.GL.run rfl rfl rfl (E.Runs.loads (cs := [.int .i64 H.teams, .int .i64 H.walk, .int .i64 H.early, .int .i64 H.foyer, .int .i64 H.dl, .int .i64 H.dh, .int .i64 H.cl, .int .i64 H.ch]) rfl rfl hu25 rfl info25s (blk_cells b3)) ?_
          refine E.GL.run rfl rfl rfl (E.Runs.move rfl rfl) ?_
          refine E.GL.st rfl rfl rfl (E.ST.call rfl ent23 (E.evc rfl (E.evc rfl E.evn)) ((late_row H l A1 c1 _ h23 (Kd.C_below hr L) hc).mono ?_))
          rintro e w138 ⟨rfl, l138⟩
          refine ⟨_, rfl, ?_⟩
          replace b3 := blk_below b3 l138
          replace b5 := blk_below b5 l138
          replace b7 := blk_below b7 l138
          replace L := below_step L l138
          replace lm := below_step lm l138
          replace ln := below_step ln l138
          replace C8 := Kd.C_below C8 l138
          refine E.GL.run rfl rfl rfl (E.Runs.move rfl rfl) ?_
          refine E.GL.run rfl rfl rfl (E.Runs.extract rfl rfl rfl) ?_
          refine E.GL.run rfl rfl rfl (E.Runs.extract rfl rfl rfl) ?_
          refine E.GL.run rfl rfl rfl (E.Runs.extract rfl rfl rfl) ?_
          refine E.GL.run rfl rfl rfl (E.Runs.assign rfl rfl) ?_
          refine E.GL.run rfl rfl rfl (E.Runs.assign rfl rfl) ?_
          refine E.GL.run rfl rfl rfl (E.Runs.assign rfl rfl) ?_
          refine E.GL.done ?_
          refine E.QG.code ?_
          refine E.CG.seq ?_
          refine E.CG.list ?_
          refine E.GL.run rfl rfl rfl (E.Runs.loads (cs := [.int .i64 H.teams, .int .i64 (mx 0 (H.walk - k)), .int .i64 H.early, .int .i64 H.foyer, .int .i64 (mn 100 (H.dl + d)), .int .i64 (mn 100 (H.dh + d)), .int .i64 (mx 1 (H.cl - c)), .int .i64 (mx 1 (H.ch - c))]) rfl rfl hu25 rfl info25s (blk_cells b7)) ?_
          refine E.GL.run rfl rfl rfl (E.Runs.move rfl rfl) ?_
          refine E.GL.st rfl rfl rfl (E.ST.call rfl ent23 (E.evc rfl (E.evc rfl E.evn)) ((late_row' (easeH H c k d) (l.map (easeS r)) l.length A8 c8 _ (by simp) VX C8 hc8).mono ?_))
          rintro e w145 ⟨rfl, l145⟩
          refine ⟨_, rfl, ?_⟩
          replace b3 := blk_below b3 l145
          replace b5 := blk_below b5 l145
          replace b7 := blk_below b7 l145
          replace L := below_step L l145
          replace lm := below_step lm l145
          replace ln := below_step ln l145
          refine E.GL.run rfl rfl rfl (E.Runs.move rfl rfl) ?_
          refine E.GL.run rfl rfl rfl (E.Runs.extract rfl rfl rfl) ?_
          refine E.GL.run rfl rfl rfl (E.Runs.extract rfl rfl rfl) ?_
          refine E.GL.run rfl rfl rfl (E.Runs.extract rfl rfl rfl) ?_
          refine E.GL.run rfl rfl rfl (E.Runs.assign rfl rfl) ?_
          refine E.GL.run rfl rfl rfl (E.Runs.assign rfl rfl) ?_
          refine E.GL.run rfl rfl rfl (E.Runs.assign rfl rfl) ?_
          refine E.GL.done ?_
          refine E.QG.code ?_
          refine E.CG.seq ?_
          refine E.CG.seq ?_
          refine E.CG.list ?_
          refine E.GL.run rfl rfl rfl (E.Runs.move rfl rfl) ?_
          refine E.GL.run rfl rfl rfl (E.Runs.neq rfl rfl rfl (E.ne_f rfl)) ?_
          refine E.GL.run rfl rfl rfl (E.Runs.move rfl rfl) ?_
          refine E.GL.run rfl rfl rfl (E.Runs.move rfl rfl) ?_
          refine E.GL.run rfl rfl rfl (E.Runs.neq rfl rfl rfl (E.ne_f rfl)) ?_
          refine E.GL.run rfl rfl rfl (E.Runs.pick_f rfl rfl rfl) ?_
          refine E.GL.run rfl rfl rfl (E.Runs.move rfl rfl) ?_
          refine E.GL.run rfl rfl rfl (E.Runs.move rfl rfl) ?_
          refine E.GL.run rfl rfl rfl (E.Runs.neq rfl rfl rfl (E.ne_f rfl)) ?_
          refine E.GL.run rfl rfl rfl (E.Runs.pick_f rfl rfl rfl) ?_
          refine E.GL.run rfl rfl rfl (E.Runs.move rfl rfl) ?_
          refine E.GL.run rfl rfl rfl (E.Runs.move rfl rfl) ?_
          refine E.GL.run rfl rfl rfl (E.Runs.neq rfl rfl rfl (E.ne_f rfl)) ?_
          refine E.GL.run rfl rfl rfl (E.Runs.pick_f rfl rfl rfl) ?_
          refine E.GL.run rfl rfl rfl (E.Runs.move rfl rfl) ?_
          refine E.GL.run rfl rfl rfl (E.Runs.move rfl rfl) ?_
          refine E.GL.run rfl rfl rfl (E.Runs.len rfl rfl hu29) ?_
          refine E.GL.run rfl rfl rfl (E.Runs.move rfl rfl) ?_
          refine E.GL.run rfl rfl rfl (E.Runs.len rfl rfl hu26) ?_
          refine E.GL.run rfl rfl rfl (E.Runs.neq rfl rfl rfl (E.ne_f rfl)) ?_
          refine E.GL.run rfl rfl rfl (E.Runs.pick_f rfl rfl rfl) ?_
          refine E.GL.run rfl rfl rfl (E.Runs.move rfl rfl) ?_
          refine E.GL.run rfl rfl rfl (E.Runs.move rfl rfl) ?_
          refine E.GL.run rfl rfl rfl (E.Runs.len rfl rfl hu29) ?_
          refine E.GL.run rfl rfl rfl (E.Runs.move rfl rfl) ?_
          refine E.GL.run rfl rfl rfl (E.Runs.len rfl rfl hu26) ?_
          refine E.GL.run rfl rfl rfl (E.Runs.neq rfl rfl rfl (E.ne_f rfl)) ?_
          refine E.GL.run rfl rfl rfl (E.Runs.pick_f rfl rfl rfl) ?_
          refine E.GL.run rfl rfl rfl (E.Runs.move rfl rfl) ?_
          refine E.GL.run rfl rfl rfl (E.Runs.move rfl rfl) ?_
          refine E.GL.cmp rfl rfl rfl (fun _ h => (E.Runs.eql rfl rfl rfl h)) (fun h179 => ?_) (fun h179 => ?_)
          · refine E.GL.run rfl rfl rfl (E.Runs.move rfl rfl) ?_
            refine E.GL.run rfl rfl rfl (E.Runs.move rfl rfl) ?_
            refine E.GL.run rfl rfl rfl (E.Runs.neq rfl rfl rfl (E.ne_f (EL.1 h179))) ?_
            refine E.GL.run rfl rfl rfl (E.Runs.pick_t rfl rfl rfl) ?_
            refine E.GL.run rfl rfl rfl (E.Runs.pick_f rfl rfl rfl) ?_
            refine E.GL.run rfl rfl rfl (E.Runs.move rfl rfl) ?_
            refine E.GL.run rfl rfl rfl (E.Runs.move rfl rfl) ?_
            refine E.GL.cmp rfl rfl rfl (fun _ h => (E.Runs.geq rfl rfl rfl h)) (fun h187 => ?_) (fun h187 => ?_)
            · refine E.GL.run rfl rfl rfl (E.Runs.move rfl rfl) ?_
              refine E.GL.run rfl rfl rfl (E.Runs.move rfl rfl) ?_
              refine E.GL.cmp rfl rfl rfl (fun _ h => (E.Runs.geq rfl rfl rfl h)) (fun h190 => ?_) (fun h190 => ?_)
              · refine E.GL.run rfl rfl rfl (E.Runs.pick_t rfl rfl rfl) ?_
                refine E.GL.run rfl rfl rfl (E.Runs.move rfl rfl) ?_
                refine E.GL.run rfl rfl rfl (E.Runs.move rfl rfl) ?_
                refine E.GL.run rfl rfl rfl (E.Runs.move rfl rfl) ?_
                refine E.GL.run rfl rfl rfl (E.Runs.lss rfl rfl rfl (decide_eq_false (by have := EL.2 h190; omega))) ?_
                refine E.GL.run rfl rfl rfl (E.Runs.pick_t rfl rfl rfl) ?_
                refine E.GL.run rfl rfl rfl (E.Runs.pick_f rfl rfl rfl) ?_
                refine E.GL.done ?_
                refine E.QG.code ?_
                refine E.CG.cond_f rfl ?_
                refine E.CG.skip ?_
                refine E.QG.code ?_
                refine E.CG.seq ?_
                refine E.CG.seq ?_
                refine E.CG.list ?_
                refine E.GL.run rfl rfl rfl (E.Runs.assign rfl rfl) ?_
                refine E.GL.done ?_
                refine E.QG.code ?_
                refine E.CG.block ?_
                have s18_b3 := b3
                have s18_b5 := b5
                have s18_b7 := b7
                have s18_L := L
                have s18_lm := lm
                have s18_ln := ln
                refine E.CG.loop (fun (j : Nat) => [(1, .slice A1 l.length c1), (10, .slice Am l.length cm), (12, .slice An l.length cn), (20, .int .i64 j)]) (fun j w' => j ≤ l.length ∧ Below w145.heap.size w145 w') (fun j => l.length - j) 0 (E.subc rfl (E.subc rfl (E.subc rfl (E.subc rfl (E.subn))))) ⟨Nat.zero_le _, Below.refl _ _⟩ ?_
                rintro j w18 ⟨hj, lq⟩
                replace L := below_step L lq
                replace lm := below_step lm lq
                replace ln := below_step ln lq
                refine E.CG.seq ?_
                refine E.CG.seq ?_
                refine E.CG.list ?_
                refine E.GL.run rfl rfl rfl (E.Runs.move rfl rfl) ?_
                refine E.GL.run rfl rfl rfl (E.Runs.move rfl rfl) ?_
                refine E.GL.run rfl rfl rfl (E.Runs.len rfl rfl hu26) ?_
                refine E.GL.cmp rfl rfl rfl (fun _ h => (E.Runs.lss rfl rfl rfl h)) (fun h201 => ?_) (fun h201 => ?_)
                · have hlt : j < l.length := by omega
                  obtain ⟨s, hs⟩ : ∃ s, l[j]? = some s := ⟨_, List.getElem?_eq_getElem hlt⟩
                  have hs' : (l.map (easeS r))[j]? = some (easeS r s) := by rw [List.getElem?_map, hs]; rfl
                  obtain ⟨t, u, TO⟩ := told h23.1 (valid_slots h23) hs
                  obtain ⟨t', u', TX⟩ := told VX.1 (valid_slots VX) hs'
                  have q1 : (earlyDay H l)[j]? = some t := by rw [earlyDay, allE_is h23.1 (valid_slots h23)]; exact TO.te
                  have q2 : (lateDay H l)[j]? = some u := by rw [lateDay, allL_is h23.1 (valid_slots h23)]; exact TO.tl
                  have q3 : (earlyDay (easeH H c k d) (l.map (easeS r)))[j]? = some t' := by rw [earlyDay, allE_is VX.1 (valid_slots VX)]; exact TX.te
                  have q4 : (lateDay (easeH H c k d) (l.map (easeS r)))[j]? = some u' := by rw [lateDay, allL_is VX.1 (valid_slots VX)]; exact TX.tl
                  obtain ⟨P1, P2⟩ := ease_day h23 e0.1 e0.2.1 e0.2.2.1 e0.2.2.2 q1 q2 q3 q4
                  obtain ⟨am, eM, M⟩ := mom_at km TO hlt
                  obtain ⟨an, eN, MN⟩ := mom_at kn TX (by simpa using hlt)
                  refine E.GL.done ?_
                  refine E.QG.code ?_
                  refine E.CG.cond_t rfl ?_
                  refine E.CG.skip ?_
                  refine E.QG.code ?_
                  refine E.CG.seq ?_
                  refine E.CG.block ?_
                  refine E.CG.seq ?_
                  refine E.CG.quietF (by kernel_rfl) rfl (by kernel_rfl) (by kernel_rfl) ?_
                  refine E.GQ.run rfl rfl rfl (E.Runs.move rfl rfl) ?_
                  refine E.GQ.run rfl rfl rfl (E.Runs.move rfl rfl) ?_
                  refine E.GQ.run rfl rfl rfl (E.Runs.indexAddrA rfl rfl rfl hu29 (by assumption) (by assumption) (by assumption) (by first | rfl | assumption) rfl) ?_
                  refine E.GQ.run rfl rfl rfl (E.Runs.fieldAddr rfl rfl hu34 rfl (by assumption) rfl) ?_
                  refine E.GQ.run rfl rfl rfl (E.Runs.fieldAddr rfl rfl hu23 rfl (by assumption) rfl) ?_
                  refine E.GQ.run rfl rfl rfl (E.Runs.load rfl rfl hu3 (by first | assumption | exact E.blkc (by assumption) rfl | exact pw_cell_below L (by assumption) | exact pw_cell_below lm (by assumption) | exact pw_cell_below ln (by assumption) | exact pw_cell_below lq (by assumption) | exact pw_cell_below lm M.c0 | exact pw_cell_below lm M.c1 | exact pw_cell_below lm M.c2 | exact pw_cell_below lm M.c3 | exact pw_cell_below lm M.c4 | exact pw_cell_below lm M.c5 | exact pw_cell_below lm M.c6 | exact pw_cell_below lm M.c7 | exact pw_cell_below lm M.c8 | exact pw_cell_below lm M.c9 | exact pw_cell_below ln MN.c0 | exact pw_cell_below ln MN.c1 | exact pw_cell_below ln MN.c2 | exact pw_cell_below ln MN.c3 | exact pw_cell_below ln MN.c4 | exact pw_cell_below ln MN.c5 | exact pw_cell_below ln MN.c6 | exact pw_cell_below ln MN.c7 | exact pw_cell_below ln MN.c8 | exact pw_cell_below ln MN.c9)) ?_
                  refine E.GQ.run rfl rfl rfl (E.Runs.move rfl rfl) ?_
                  refine E.GQ.run rfl rfl rfl (E.Runs.move rfl rfl) ?_
                  refine E.GQ.run rfl rfl rfl (E.Runs.indexAddrA rfl rfl rfl hu29 (by assumption) (by assumption) (by assumption) (by first | rfl | assumption) rfl) ?_
                  refine E.GQ.run rfl rfl rfl (E.Runs.fieldAddr rfl rfl hu34 rfl (by assumption) rfl) ?_
                  refine E.GQ.run rfl rfl rfl (E.Runs.fieldAddr rfl rfl hu23 rfl (by assumption) rfl) ?_
                  refine E.GQ.run rfl rfl rfl (E.Runs.load rfl rfl hu3 (by first | assumption | exact E.blkc (by assumption) rfl | exact pw_cell_below L (by assumption) | exact pw_cell_below lm (by assumption) | exact pw_cell_below ln (by assumption) | exact pw_cell_below lq (by assumption) | exact pw_cell_below lm M.c0 | exact pw_cell_below lm M.c1 | exact pw_cell_below lm M.c2 | exact pw_cell_below lm M.c3 | exact pw_cell_below lm M.c4 | exact pw_cell_below lm M.c5 | exact pw_cell_below lm M.c6 | exact pw_cell_below lm M.c7 | exact pw_cell_below lm M.c8 | exact pw_cell_below lm M.c9 | exact pw_cell_below ln MN.c0 | exact pw_cell_below ln MN.c1 | exact pw_cell_below ln MN.c2 | exact pw_cell_below ln MN.c3 | exact pw_cell_below ln MN.c4 | exact pw_cell_below ln MN.c5 | exact pw_cell_below ln MN.c6 | exact pw_cell_below ln MN.c7 | exact pw_cell_below ln MN.c8 | exact pw_cell_below ln MN.c9)) ?_
                  refine E.GQ.run rfl rfl rfl (E.Runs.gtr rfl rfl rfl (decide_eq_false (by have := P2.r; omega))) ?_
                  refine E.GQ.run rfl rfl rfl (E.Runs.move rfl rfl) ?_
                  refine E.GQ.run rfl rfl rfl (E.Runs.move rfl rfl) ?_
                  refine E.GQ.run rfl rfl rfl (E.Runs.move rfl rfl) ?_
                  refine E.GQ.run rfl rfl rfl (E.Runs.indexAddrA rfl rfl rfl hu29 (by assumption) (by assumption) (by assumption) (by first | rfl | assumption) rfl) ?_
                  refine E.GQ.run rfl rfl rfl (E.Runs.fieldAddr rfl rfl hu34 rfl (by assumption) rfl) ?_
                  refine E.GQ.run rfl rfl rfl (E.Runs.fieldAddr rfl rfl hu23 rfl (by assumption) rfl) ?_
                  refine E.GQ.run rfl rfl rfl (E.Runs.load rfl rfl hu3 (by first | assumption | exact E.blkc (by assumption) rfl | exact pw_cell_below L (by assumption) | exact pw_cell_below lm (by assumption) | exact pw_cell_below ln (by assumption) | exact pw_cell_below lq (by assumption) | exact pw_cell_below lm M.c0 | exact pw_cell_below lm M.c1 | exact pw_cell_below lm M.c2 | exact pw_cell_below lm M.c3 | exact pw_cell_below lm M.c4 | exact pw_cell_below lm M.c5 | exact pw_cell_below lm M.c6 | exact pw_cell_below lm M.c7 | exact pw_cell_below lm M.c8 | exact pw_cell_below lm M.c9 | exact pw_cell_below ln MN.c0 | exact pw_cell_below ln MN.c1 | exact pw_cell_below ln MN.c2 | exact pw_cell_below ln MN.c3 | exact pw_cell_below ln MN.c4 | exact pw_cell_below ln MN.c5 | exact pw_cell_below ln MN.c6 | exact pw_cell_below ln MN.c7 | exact pw_cell_below ln MN.c8 | exact pw_cell_below ln MN.c9)) ?_
                  refine E.GQ.run rfl rfl rfl (E.Runs.move rfl rfl) ?_
                  refine E.GQ.run rfl rfl rfl (E.Runs.move rfl rfl) ?_
                  refine E.GQ.run rfl rfl rfl (E.Runs.indexAddrA rfl rfl rfl hu29 (by assumption) (by assumption) (by assumption) (by first | rfl | assumption) rfl) ?_
                  refine E.GQ.run rfl rfl rfl (E.Runs.fieldAddr rfl rfl hu34 rfl (by assumption) rfl) ?_
                  refine E.GQ.run rfl rfl rfl (E.Runs.fieldAddr rfl rfl hu23 rfl (by assumption) rfl) ?_
                  refine E.GQ.run rfl rfl rfl (E.Runs.load rfl rfl hu3 (by first | assumption | exact E.blkc (by assumption) rfl | exact pw_cell_below L (by assumption) | exact pw_cell_below lm (by assumption) | exact pw_cell_below ln (by assumption) | exact pw_cell_below lq (by assumption) | exact pw_cell_below lm M.c0 | exact pw_cell_below lm M.c1 | exact pw_cell_below lm M.c2 | exact pw_cell_below lm M.c3 | exact pw_cell_below lm M.c4 | exact pw_cell_below lm M.c5 | exact pw_cell_below lm M.c6 | exact pw_cell_below lm M.c7 | exact pw_cell_below lm M.c8 | exact pw_cell_below lm M.c9 | exact pw_cell_below ln MN.c0 | exact pw_cell_below ln MN.c1 | exact pw_cell_below ln MN.c2 | exact pw_cell_below ln MN.c3 | exact pw_cell_below ln MN.c4 | exact pw_cell_below ln MN.c5 | exact pw_cell_below ln MN.c6 | exact pw_cell_below ln MN.c7 | exact pw_cell_below ln MN.c8 | exact pw_cell_below ln MN.c9)) ?_
                  refine E.GQ.run rfl rfl rfl (E.Runs.gtr rfl rfl rfl (decide_eq_false (by have := P1.r; omega))) ?_
                  refine E.GQ.run rfl rfl rfl (E.Runs.pick_f rfl rfl rfl) ?_
                  refine E.GQ.run rfl rfl rfl (E.Runs.move rfl rfl) ?_
                  refine E.GQ.run rfl rfl rfl (E.Runs.move rfl rfl) ?_
                  refine E.GQ.run rfl rfl rfl (E.Runs.move rfl rfl) ?_
                  refine E.GQ.run rfl rfl rfl (E.Runs.indexAddrA rfl rfl rfl hu29 (by assumption) (by assumption) (by assumption) (by first | rfl | assumption) rfl) ?_
                  refine E.GQ.run rfl rfl rfl (E.Runs.fieldAddr rfl rfl hu34 rfl (by assumption) rfl) ?_
                  refine E.GQ.run rfl rfl rfl (E.Runs.fieldAddr rfl rfl hu23 rfl (by assumption) rfl) ?_
                  refine E.GQ.run rfl rfl rfl (E.Runs.load rfl rfl hu3 (by first | assumption | exact E.blkc (by assumption) rfl | exact pw_cell_below L (by assumption) | exact pw_cell_below lm (by assumption) | exact pw_cell_below ln (by assumption) | exact pw_cell_below lq (by assumption) | exact pw_cell_below lm M.c0 | exact pw_cell_below lm M.c1 | exact pw_cell_below lm M.c2 | exact pw_cell_below lm M.c3 | exact pw_cell_below lm M.c4 | exact pw_cell_below lm M.c5 | exact pw_cell_below lm M.c6 | exact pw_cell_below lm M.c7 | exact pw_cell_below lm M.c8 | exact pw_cell_below lm M.c9 | exact pw_cell_below ln MN.c0 | exact pw_cell_below ln MN.c1 | exact pw_cell_below ln MN.c2 | exact pw_cell_below ln MN.c3 | exact pw_cell_below ln MN.c4 | exact pw_cell_below ln MN.c5 | exact pw_cell_below ln MN.c6 | exact pw_cell_below ln MN.c7 | exact pw_cell_below ln MN.c8 | exact pw_cell_below ln MN.c9)) ?_
                  refine E.GQ.run rfl rfl rfl (E.Runs.move rfl rfl) ?_
                  refine E.GQ.run rfl rfl rfl (E.Runs.move rfl rfl) ?_
                  refine E.GQ.run rfl rfl rfl (E.Runs.indexAddrA rfl rfl rfl hu29 (by assumption) (by assumption) (by assumption) (by first | rfl | assumption) rfl) ?_
                  refine E.GQ.run rfl rfl rfl (E.Runs.fieldAddr rfl rfl hu34 rfl (by assumption) rfl) ?_
                  refine E.GQ.run rfl rfl rfl (E.Runs.fieldAddr rfl rfl hu23 rfl (by assumption) rfl) ?_
                  refine E.GQ.run rfl rfl rfl (E.Runs.load rfl rfl hu3 (by first | assumption | exact E.blkc (by assumption) rfl | exact pw_cell_below L (by assumption) | exact pw_cell_below lm (by assumption) | exact pw_cell_below ln (by assumption) | exact pw_cell_below lq (by assumption) | exact pw_cell_below lm M.c0 | exact pw_cell_below lm M.c1 | exact pw_cell_below lm M.c2 | exact pw_cell_below lm M.c3 | exact pw_cell_below lm M.c4 | exact pw_cell_below lm M.c5 | exact pw_cell_below lm M.c6 | exact pw_cell_below lm M.c7 | exact pw_cell_below lm M.c8 | exact pw_cell_below lm M.c9 | exact pw_cell_below ln MN.c0 | exact pw_cell_below ln MN.c1 | exact pw_cell_below ln MN.c2 | exact pw_cell_below ln MN.c3 | exact pw_cell_below ln MN.c4 | exact pw_cell_below ln MN.c5 | exact pw_cell_below ln MN.c6 | exact pw_cell_below ln MN.c7 | exact pw_cell_below ln MN.c8 | exact pw_cell_below ln MN.c9)) ?_
                  refine E.GQ.run rfl rfl rfl (E.Runs.gtr rfl rfl rfl (decide_eq_false (by have := P2.s; omega))) ?_
                  refine E.GQ.run rfl rfl rfl (E.Runs.pick_f rfl rfl rfl) ?_
                  refine E.GQ.run rfl rfl rfl (E.Runs.move rfl rfl) ?_
                  refine E.GQ.run rfl rfl rfl (E.Runs.move rfl rfl) ?_
                  refine E.GQ.run rfl rfl rfl (E.Runs.move rfl rfl) ?_
                  refine E.GQ.run rfl rfl rfl (E.Runs.indexAddrA rfl rfl rfl hu29 (by assumption) (by assumption) (by assumption) (by first | rfl | assumption) rfl) ?_
                  refine E.GQ.run rfl rfl rfl (E.Runs.fieldAddr rfl rfl hu34 rfl (by assumption) rfl) ?_
                  refine E.GQ.run rfl rfl rfl (E.Runs.fieldAddr rfl rfl hu23 rfl (by assumption) rfl) ?_
                  refine E.GQ.run rfl rfl rfl (E.Runs.load rfl rfl hu3 (by first | assumption | exact E.blkc (by assumption) rfl | exact pw_cell_below L (by assumption) | exact pw_cell_below lm (by assumption) | exact pw_cell_below ln (by assumption) | exact pw_cell_below lq (by assumption) | exact pw_cell_below lm M.c0 | exact pw_cell_below lm M.c1 | exact pw_cell_below lm M.c2 | exact pw_cell_below lm M.c3 | exact pw_cell_below lm M.c4 | exact pw_cell_below lm M.c5 | exact pw_cell_below lm M.c6 | exact pw_cell_below lm M.c7 | exact pw_cell_below lm M.c8 | exact pw_cell_below lm M.c9 | exact pw_cell_below ln MN.c0 | exact pw_cell_below ln MN.c1 | exact pw_cell_below ln MN.c2 | exact pw_cell_below ln MN.c3 | exact pw_cell_below ln MN.c4 | exact pw_cell_below ln MN.c5 | exact pw_cell_below ln MN.c6 | exact pw_cell_below ln MN.c7 | exact pw_cell_below ln MN.c8 | exact pw_cell_below ln MN.c9)) ?_
                  refine E.GQ.run rfl rfl rfl (E.Runs.move rfl rfl) ?_
                  refine E.GQ.run rfl rfl rfl (E.Runs.move rfl rfl) ?_
                  refine E.GQ.run rfl rfl rfl (E.Runs.indexAddrA rfl rfl rfl hu29 (by assumption) (by assumption) (by assumption) (by first | rfl | assumption) rfl) ?_
                  refine E.GQ.run rfl rfl rfl (E.Runs.fieldAddr rfl rfl hu34 rfl (by assumption) rfl) ?_
                  refine E.GQ.run rfl rfl rfl (E.Runs.fieldAddr rfl rfl hu23 rfl (by assumption) rfl) ?_
                  refine E.GQ.run rfl rfl rfl (E.Runs.load rfl rfl hu3 (by first | assumption | exact E.blkc (by assumption) rfl | exact pw_cell_below L (by assumption) | exact pw_cell_below lm (by assumption) | exact pw_cell_below ln (by assumption) | exact pw_cell_below lq (by assumption) | exact pw_cell_below lm M.c0 | exact pw_cell_below lm M.c1 | exact pw_cell_below lm M.c2 | exact pw_cell_below lm M.c3 | exact pw_cell_below lm M.c4 | exact pw_cell_below lm M.c5 | exact pw_cell_below lm M.c6 | exact pw_cell_below lm M.c7 | exact pw_cell_below lm M.c8 | exact pw_cell_below lm M.c9 | exact pw_cell_below ln MN.c0 | exact pw_cell_below ln MN.c1 | exact pw_cell_below ln MN.c2 | exact pw_cell_below ln MN.c3 | exact pw_cell_below ln MN.c4 | exact pw_cell_below ln MN.c5 | exact pw_cell_below ln MN.c6 | exact pw_cell_below ln MN.c7 | exact pw_cell_below ln MN.c8 | exact pw_cell_below ln MN.c9)) ?_
                  refine E.GQ.run rfl rfl rfl (E.Runs.gtr rfl rfl rfl (decide_eq_false (by have := P2.e; omega))) ?_
                  refine E.GQ.run rfl rfl rfl (E.Runs.pick_f rfl rfl rfl) ?_
                  refine E.GQ.run rfl rfl rfl (E.Runs.move rfl rfl) ?_
                  refine E.GQ.run rfl rfl rfl (E.Runs.move rfl rfl) ?_
                  refine E.GQ.run rfl rfl rfl (E.Runs.move rfl rfl) ?_
                  refine E.GQ.run rfl rfl rfl (E.Runs.indexAddrA rfl rfl rfl hu29 (by assumption) (by assumption) (by assumption) (by first | rfl | assumption) rfl) ?_
                  refine E.GQ.run rfl rfl rfl (E.Runs.fieldAddr rfl rfl hu34 rfl (by assumption) rfl) ?_
                  refine E.GQ.run rfl rfl rfl (E.Runs.fieldAddr rfl rfl hu23 rfl (by assumption) rfl) ?_
                  refine E.GQ.run rfl rfl rfl (E.Runs.load rfl rfl hu3 (by first | assumption | exact E.blkc (by assumption) rfl | exact pw_cell_below L (by assumption) | exact pw_cell_below lm (by assumption) | exact pw_cell_below ln (by assumption) | exact pw_cell_below lq (by assumption) | exact pw_cell_below lm M.c0 | exact pw_cell_below lm M.c1 | exact pw_cell_below lm M.c2 | exact pw_cell_below lm M.c3 | exact pw_cell_below lm M.c4 | exact pw_cell_below lm M.c5 | exact pw_cell_below lm M.c6 | exact pw_cell_below lm M.c7 | exact pw_cell_below lm M.c8 | exact pw_cell_below lm M.c9 | exact pw_cell_below ln MN.c0 | exact pw_cell_below ln MN.c1 | exact pw_cell_below ln MN.c2 | exact pw_cell_below ln MN.c3 | exact pw_cell_below ln MN.c4 | exact pw_cell_below ln MN.c5 | exact pw_cell_below ln MN.c6 | exact pw_cell_below ln MN.c7 | exact pw_cell_below ln MN.c8 | exact pw_cell_below ln MN.c9)) ?_
                  refine E.GQ.run rfl rfl rfl (E.Runs.move rfl rfl) ?_
                  refine E.GQ.run rfl rfl rfl (E.Runs.move rfl rfl) ?_
                  refine E.GQ.run rfl rfl rfl (E.Runs.indexAddrA rfl rfl rfl hu29 (by assumption) (by assumption) (by assumption) (by first | rfl | assumption) rfl) ?_
                  refine E.GQ.run rfl rfl rfl (E.Runs.fieldAddr rfl rfl hu34 rfl (by assumption) rfl) ?_
                  refine E.GQ.run rfl rfl rfl (E.Runs.fieldAddr rfl rfl hu23 rfl (by assumption) rfl) ?_
                  refine E.GQ.run rfl rfl rfl (E.Runs.load rfl rfl hu3 (by first | assumption | exact E.blkc (by assumption) rfl | exact pw_cell_below L (by assumption) | exact pw_cell_below lm (by assumption) | exact pw_cell_below ln (by assumption) | exact pw_cell_below lq (by assumption) | exact pw_cell_below lm M.c0 | exact pw_cell_below lm M.c1 | exact pw_cell_below lm M.c2 | exact pw_cell_below lm M.c3 | exact pw_cell_below lm M.c4 | exact pw_cell_below lm M.c5 | exact pw_cell_below lm M.c6 | exact pw_cell_below lm M.c7 | exact pw_cell_below lm M.c8 | exact pw_cell_below lm M.c9 | exact pw_cell_below ln MN.c0 | exact pw_cell_below ln MN.c1 | exact pw_cell_below ln MN.c2 | exact pw_cell_below ln MN.c3 | exact pw_cell_below ln MN.c4 | exact pw_cell_below ln MN.c5 | exact pw_cell_below ln MN.c6 | exact pw_cell_below ln MN.c7 | exact pw_cell_below ln MN.c8 | exact pw_cell_below ln MN.c9)) ?_
                  refine E.GQ.run rfl rfl rfl (E.Runs.gtr rfl rfl rfl (decide_eq_false (by have := P2.d; omega))) ?_
                  refine E.GQ.run rfl rfl rfl (E.Runs.pick_f rfl rfl rfl) ?_
                  refine E.GQ.run rfl rfl rfl (E.Runs.move rfl rfl) ?_
                  refine E.GQ.run rfl rfl rfl (E.Runs.move rfl rfl) ?_
                  refine E.GQ.run rfl rfl rfl (E.Runs.move rfl rfl) ?_
                  refine E.GQ.run rfl rfl rfl (E.Runs.indexAddrA rfl rfl rfl hu29 (by assumption) (by assumption) (by assumption) (by first | rfl | assumption) rfl) ?_
                  refine E.GQ.run rfl rfl rfl (E.Runs.fieldAddr rfl rfl hu34 rfl (by assumption) rfl) ?_
                  refine E.GQ.run rfl rfl rfl (E.Runs.fieldAddr rfl rfl hu23 rfl (by assumption) rfl) ?_
                  refine E.GQ.run rfl rfl rfl (E.Runs.load rfl rfl hu3 (by first | assumption | exact E.blkc (by assumption) rfl | exact pw_cell_below L (by assumption) | exact pw_cell_below lm (by assumption) | exact pw_cell_below ln (by assumption) | exact pw_cell_below lq (by assumption) | exact pw_cell_below lm M.c0 | exact pw_cell_below lm M.c1 | exact pw_cell_below lm M.c2 | exact pw_cell_below lm M.c3 | exact pw_cell_below lm M.c4 | exact pw_cell_below lm M.c5 | exact pw_cell_below lm M.c6 | exact pw_cell_below lm M.c7 | exact pw_cell_below lm M.c8 | exact pw_cell_below lm M.c9 | exact pw_cell_below ln MN.c0 | exact pw_cell_below ln MN.c1 | exact pw_cell_below ln MN.c2 | exact pw_cell_below ln MN.c3 | exact pw_cell_below ln MN.c4 | exact pw_cell_below ln MN.c5 | exact pw_cell_below ln MN.c6 | exact pw_cell_below ln MN.c7 | exact pw_cell_below ln MN.c8 | exact pw_cell_below ln MN.c9)) ?_
                  refine E.GQ.run rfl rfl rfl (E.Runs.move rfl rfl) ?_
                  refine E.GQ.run rfl rfl rfl (E.Runs.move rfl rfl) ?_
                  refine E.GQ.run rfl rfl rfl (E.Runs.indexAddrA rfl rfl rfl hu29 (by assumption) (by assumption) (by assumption) (by first | rfl | assumption) rfl) ?_
                  refine E.GQ.run rfl rfl rfl (E.Runs.fieldAddr rfl rfl hu34 rfl (by assumption) rfl) ?_
                  refine E.GQ.run rfl rfl rfl (E.Runs.fieldAddr rfl rfl hu23 rfl (by assumption) rfl) ?_
                  refine E.GQ.run rfl rfl rfl (E.Runs.load rfl rfl hu3 (by first | assumption | exact E.blkc (by assumption) rfl | exact pw_cell_below L (by assumption) | exact pw_cell_below lm (by assumption) | exact pw_cell_below ln (by assumption) | exact pw_cell_below lq (by assumption) | exact pw_cell_below lm M.c0 | exact pw_cell_below lm M.c1 | exact pw_cell_below lm M.c2 | exact pw_cell_below lm M.c3 | exact pw_cell_below lm M.c4 | exact pw_cell_below lm M.c5 | exact pw_cell_below lm M.c6 | exact pw_cell_below lm M.c7 | exact pw_cell_below lm M.c8 | exact pw_cell_below lm M.c9 | exact pw_cell_below ln MN.c0 | exact pw_cell_below ln MN.c1 | exact pw_cell_below ln MN.c2 | exact pw_cell_below ln MN.c3 | exact pw_cell_below ln MN.c4 | exact pw_cell_below ln MN.c5 | exact pw_cell_below ln MN.c6 | exact pw_cell_below ln MN.c7 | exact pw_cell_below ln MN.c8 | exact pw_cell_below ln MN.c9)) ?_
                  refine E.GQ.run rfl rfl rfl (E.Runs.gtr rfl rfl rfl (decide_eq_false (by have := P2.m; omega))) ?_
                  refine E.GQ.run rfl rfl rfl (E.Runs.pick_f rfl rfl rfl) ?_
                  refine E.GQ.doneB fun v20 lD => ?_
                  replace L := below_step L lD
                  replace lm := below_step lm lD
                  replace ln := below_step ln lD
                  replace lq := below_step lq lD
                  clear lD
                  refine E.QG.code ?_
                  refine E.CG.cond_f rfl ?_
                  refine E.CG.skip ?_
                  refine E.QG.block_normal ?_
                  refine E.QG.code ?_
                  refine E.CG.list ?_
                  refine E.GL.run rfl rfl rfl (E.Runs.move rfl rfl) ?_
                  refine E.GL.run rfl rfl rfl (E.Runs.add rfl rfl rfl (IntWalk.i64_in _ (by omega))) ?_
                  refine E.GL.run rfl rfl rfl (E.Runs.assign rfl rfl) ?_
                  refine E.GL.done ?_
                  exact E.QG.round (j + 1) (E.subc rfl (E.subc rfl (E.subc rfl (E.subc rfl E.subn)))) ⟨by omega, lq⟩ (by omega)
                · refine E.GL.done ?_
                  refine E.QG.code ?_
                  refine E.CG.cond_f rfl ?_
                  refine E.CG.exit ?_
                  refine E.QG.pass_exit ?_
                  refine E.QG.pass_exit ?_
                  refine E.QG.block_here ?_
                  refine E.QG.code ?_
                  refine E.CG.seq ?_
                  refine E.CG.list ?_
                  refine E.GL.st rfl rfl rfl (E.ST.call rfl ent14 E.evn ((works_calls _).mono ?_))
                  rintro e w292 ⟨rfl, l292⟩
                  refine ⟨_, rfl, ?_⟩
                  replace L := below_step L l292
                  replace lm := below_step lm l292
                  replace ln := below_step ln l292
                  refine E.GL.run rfl rfl rfl (E.Runs.assign rfl rfl) ?_
                  refine E.GL.done ?_
                  refine E.QG.code ?_
                  refine E.CG.ret ?_
                  exact E.QG.result rfl rfl ⟨rfl, L⟩
              · refine E.GL.run rfl rfl rfl (E.Runs.pick_t rfl rfl rfl) ?_
                refine E.GL.run rfl rfl rfl (E.Runs.move rfl rfl) ?_
                refine E.GL.skip rfl rfl rfl ?_
                refine E.GL.skip rfl rfl rfl ?_
                refine E.GL.skip rfl rfl rfl ?_
                refine E.GL.run rfl rfl rfl (E.Runs.pick_f rfl rfl rfl) ?_
                refine E.GL.run rfl rfl rfl (E.Runs.pick_f rfl rfl rfl) ?_
                refine E.GL.done ?_
                refine E.QG.code ?_
                refine E.CG.cond_f rfl ?_
                refine E.CG.skip ?_
                refine E.QG.code ?_
                refine E.CG.seq ?_
                refine E.CG.seq ?_
                refine E.CG.list ?_
                refine E.GL.run rfl rfl rfl (E.Runs.assign rfl rfl) ?_
                refine E.GL.done ?_
                refine E.QG.code ?_
                refine E.CG.block ?_
                have s18_b3 := b3
                have s18_b5 := b5
                have s18_b7 := b7
                have s18_L := L
                have s18_lm := lm
                have s18_ln := ln
                refine E.CG.loop (fun (j : Nat) => [(1, .slice A1 l.length c1), (10, .slice Am l.length cm), (12, .slice An l.length cn), (20, .int .i64 j)]) (fun j w' => j ≤ l.length ∧ Below w145.heap.size w145 w') (fun j => l.length - j) 0 (E.subc rfl (E.subc rfl (E.subc rfl (E.subc rfl (E.subn))))) ⟨Nat.zero_le _, Below.refl _ _⟩ ?_
                rintro j w18 ⟨hj, lq⟩
                replace L := below_step L lq
                replace lm := below_step lm lq
                replace ln := below_step ln lq
                refine E.CG.seq ?_
                refine E.CG.seq ?_
                refine E.CG.list ?_
                refine E.GL.run rfl rfl rfl (E.Runs.move rfl rfl) ?_
                refine E.GL.run rfl rfl rfl (E.Runs.move rfl rfl) ?_
                refine E.GL.run rfl rfl rfl (E.Runs.len rfl rfl hu26) ?_
                refine E.GL.cmp rfl rfl rfl (fun _ h => (E.Runs.lss rfl rfl rfl h)) (fun h201 => ?_) (fun h201 => ?_)
                · have hlt : j < l.length := by omega
                  obtain ⟨s, hs⟩ : ∃ s, l[j]? = some s := ⟨_, List.getElem?_eq_getElem hlt⟩
                  have hs' : (l.map (easeS r))[j]? = some (easeS r s) := by rw [List.getElem?_map, hs]; rfl
                  obtain ⟨t, u, TO⟩ := told h23.1 (valid_slots h23) hs
                  obtain ⟨t', u', TX⟩ := told VX.1 (valid_slots VX) hs'
                  have q1 : (earlyDay H l)[j]? = some t := by rw [earlyDay, allE_is h23.1 (valid_slots h23)]; exact TO.te
                  have q2 : (lateDay H l)[j]? = some u := by rw [lateDay, allL_is h23.1 (valid_slots h23)]; exact TO.tl
                  have q3 : (earlyDay (easeH H c k d) (l.map (easeS r)))[j]? = some t' := by rw [earlyDay, allE_is VX.1 (valid_slots VX)]; exact TX.te
                  have q4 : (lateDay (easeH H c k d) (l.map (easeS r)))[j]? = some u' := by rw [lateDay, allL_is VX.1 (valid_slots VX)]; exact TX.tl
                  obtain ⟨P1, P2⟩ := ease_day h23 e0.1 e0.2.1 e0.2.2.1 e0.2.2.2 q1 q2 q3 q4
                  obtain ⟨am, eM, M⟩ := mom_at km TO hlt
                  obtain ⟨an, eN, MN⟩ := mom_at kn TX (by simpa using hlt)
                  refine E.GL.done ?_
                  refine E.QG.code ?_
                  refine E.CG.cond_t rfl ?_
                  refine E.CG.skip ?_
                  refine E.QG.code ?_
                  refine E.CG.seq ?_
                  refine E.CG.block ?_
                  refine E.CG.seq ?_
                  refine E.CG.quietF (by kernel_rfl) rfl (by kernel_rfl) (by kernel_rfl) ?_
                  refine E.GQ.run rfl rfl rfl (E.Runs.move rfl rfl) ?_
                  refine E.GQ.run rfl rfl rfl (E.Runs.move rfl rfl) ?_
                  refine E.GQ.run rfl rfl rfl (E.Runs.indexAddrA rfl rfl rfl hu29 (by assumption) (by assumption) (by assumption) (by first | rfl | assumption) rfl) ?_
                  refine E.GQ.run rfl rfl rfl (E.Runs.fieldAddr rfl rfl hu34 rfl (by assumption) rfl) ?_
                  refine E.GQ.run rfl rfl rfl (E.Runs.fieldAddr rfl rfl hu23 rfl (by assumption) rfl) ?_
                  refine E.GQ.run rfl rfl rfl (E.Runs.load rfl rfl hu3 (by first | assumption | exact E.blkc (by assumption) rfl | exact pw_cell_below L (by assumption) | exact pw_cell_below lm (by assumption) | exact pw_cell_below ln (by assumption) | exact pw_cell_below lq (by assumption) | exact pw_cell_below lm M.c0 | exact pw_cell_below lm M.c1 | exact pw_cell_below lm M.c2 | exact pw_cell_below lm M.c3 | exact pw_cell_below lm M.c4 | exact pw_cell_below lm M.c5 | exact pw_cell_below lm M.c6 | exact pw_cell_below lm M.c7 | exact pw_cell_below lm M.c8 | exact pw_cell_below lm M.c9 | exact pw_cell_below ln MN.c0 | exact pw_cell_below ln MN.c1 | exact pw_cell_below ln MN.c2 | exact pw_cell_below ln MN.c3 | exact pw_cell_below ln MN.c4 | exact pw_cell_below ln MN.c5 | exact pw_cell_below ln MN.c6 | exact pw_cell_below ln MN.c7 | exact pw_cell_below ln MN.c8 | exact pw_cell_below ln MN.c9)) ?_
                  refine E.GQ.run rfl rfl rfl (E.Runs.move rfl rfl) ?_
                  refine E.GQ.run rfl rfl rfl (E.Runs.move rfl rfl) ?_
                  refine E.GQ.run rfl rfl rfl (E.Runs.indexAddrA rfl rfl rfl hu29 (by assumption) (by assumption) (by assumption) (by first | rfl | assumption) rfl) ?_
                  refine E.GQ.run rfl rfl rfl (E.Runs.fieldAddr rfl rfl hu34 rfl (by assumption) rfl) ?_
                  refine E.GQ.run rfl rfl rfl (E.Runs.fieldAddr rfl rfl hu23 rfl (by assumption) rfl) ?_
                  refine E.GQ.run rfl rfl rfl (E.Runs.load rfl rfl hu3 (by first | assumption | exact E.blkc (by assumption) rfl | exact pw_cell_below L (by assumption) | exact pw_cell_below lm (by assumption) | exact pw_cell_below ln (by assumption) | exact pw_cell_below lq (by assumption) | exact pw_cell_below lm M.c0 | exact pw_cell_below lm M.c1 | exact pw_cell_below lm M.c2 | exact pw_cell_below lm M.c3 | exact pw_cell_below lm M.c4 | exact pw_cell_below lm M.c5 | exact pw_cell_below lm M.c6 | exact pw_cell_below lm M.c7 | exact pw_cell_below lm M.c8 | exact pw_cell_below lm M.c9 | exact pw_cell_below ln MN.c0 | exact pw_cell_below ln MN.c1 | exact pw_cell_below ln MN.c2 | exact pw_cell_below ln MN.c3 | exact pw_cell_below ln MN.c4 | exact pw_cell_below ln MN.c5 | exact pw_cell_below ln MN.c6 | exact pw_cell_below ln MN.c7 | exact pw_cell_below ln MN.c8 | exact pw_cell_below ln MN.c9)) ?_
                  refine E.GQ.run rfl rfl rfl (E.Runs.gtr rfl rfl rfl (decide_eq_false (by have := P2.r; omega))) ?_
                  refine E.GQ.run rfl rfl rfl (E.Runs.move rfl rfl) ?_
                  refine E.GQ.run rfl rfl rfl (E.Runs.move rfl rfl) ?_
                  refine E.GQ.run rfl rfl rfl (E.Runs.move rfl rfl) ?_
                  refine E.GQ.run rfl rfl rfl (E.Runs.indexAddrA rfl rfl rfl hu29 (by assumption) (by assumption) (by assumption) (by first | rfl | assumption) rfl) ?_
                  refine E.GQ.run rfl rfl rfl (E.Runs.fieldAddr rfl rfl hu34 rfl (by assumption) rfl) ?_
                  refine E.GQ.run rfl rfl rfl (E.Runs.fieldAddr rfl rfl hu23 rfl (by assumption) rfl) ?_
                  refine E.GQ.run rfl rfl rfl (E.Runs.load rfl rfl hu3 (by first | assumption | exact E.blkc (by assumption) rfl | exact pw_cell_below L (by assumption) | exact pw_cell_below lm (by assumption) | exact pw_cell_below ln (by assumption) | exact pw_cell_below lq (by assumption) | exact pw_cell_below lm M.c0 | exact pw_cell_below lm M.c1 | exact pw_cell_below lm M.c2 | exact pw_cell_below lm M.c3 | exact pw_cell_below lm M.c4 | exact pw_cell_below lm M.c5 | exact pw_cell_below lm M.c6 | exact pw_cell_below lm M.c7 | exact pw_cell_below lm M.c8 | exact pw_cell_below lm M.c9 | exact pw_cell_below ln MN.c0 | exact pw_cell_below ln MN.c1 | exact pw_cell_below ln MN.c2 | exact pw_cell_below ln MN.c3 | exact pw_cell_below ln MN.c4 | exact pw_cell_below ln MN.c5 | exact pw_cell_below ln MN.c6 | exact pw_cell_below ln MN.c7 | exact pw_cell_below ln MN.c8 | exact pw_cell_below ln MN.c9)) ?_
                  refine E.GQ.run rfl rfl rfl (E.Runs.move rfl rfl) ?_
                  refine E.GQ.run rfl rfl rfl (E.Runs.move rfl rfl) ?_
                  refine E.GQ.run rfl rfl rfl (E.Runs.indexAddrA rfl rfl rfl hu29 (by assumption) (by assumption) (by assumption) (by first | rfl | assumption) rfl) ?_
                  refine E.GQ.run rfl rfl rfl (E.Runs.fieldAddr rfl rfl hu34 rfl (by assumption) rfl) ?_
                  refine E.GQ.run rfl rfl rfl (E.Runs.fieldAddr rfl rfl hu23 rfl (by assumption) rfl) ?_
                  refine E.GQ.run rfl rfl rfl (E.Runs.load rfl rfl hu3 (by first | assumption | exact E.blkc (by assumption) rfl | exact pw_cell_below L (by assumption) | exact pw_cell_below lm (by assumption) | exact pw_cell_below ln (by assumption) | exact pw_cell_below lq (by assumption) | exact pw_cell_below lm M.c0 | exact pw_cell_below lm M.c1 | exact pw_cell_below lm M.c2 | exact pw_cell_below lm M.c3 | exact pw_cell_below lm M.c4 | exact pw_cell_below lm M.c5 | exact pw_cell_below lm M.c6 | exact pw_cell_below lm M.c7 | exact pw_cell_below lm M.c8 | exact pw_cell_below lm M.c9 | exact pw_cell_below ln MN.c0 | exact pw_cell_below ln MN.c1 | exact pw_cell_below ln MN.c2 | exact pw_cell_below ln MN.c3 | exact pw_cell_below ln MN.c4 | exact pw_cell_below ln MN.c5 | exact pw_cell_below ln MN.c6 | exact pw_cell_below ln MN.c7 | exact pw_cell_below ln MN.c8 | exact pw_cell_below ln MN.c9)) ?_
                  refine E.GQ.run rfl rfl rfl (E.Runs.gtr rfl rfl rfl (decide_eq_false (by have := P1.r; omega))) ?_
                  refine E.GQ.run rfl rfl rfl (E.Runs.pick_f rfl rfl rfl) ?_
                  refine E.GQ.run rfl rfl rfl (E.Runs.move rfl rfl) ?_
                  refine E.GQ.run rfl rfl rfl (E.Runs.move rfl rfl) ?_
                  refine E.GQ.run rfl rfl rfl (E.Runs.move rfl rfl) ?_
                  refine E.GQ.run rfl rfl rfl (E.Runs.indexAddrA rfl rfl rfl hu29 (by assumption) (by assumption) (by assumption) (by first | rfl | assumption) rfl) ?_
                  refine E.GQ.run rfl rfl rfl (E.Runs.fieldAddr rfl rfl hu34 rfl (by assumption) rfl) ?_
                  refine E.GQ.run rfl rfl rfl (E.Runs.fieldAddr rfl rfl hu23 rfl (by assumption) rfl) ?_
                  refine E.GQ.run rfl rfl rfl (E.Runs.load rfl rfl hu3 (by first | assumption | exact E.blkc (by assumption) rfl | exact pw_cell_below L (by assumption) | exact pw_cell_below lm (by assumption) | exact pw_cell_below ln (by assumption) | exact pw_cell_below lq (by assumption) | exact pw_cell_below lm M.c0 | exact pw_cell_below lm M.c1 | exact pw_cell_below lm M.c2 | exact pw_cell_below lm M.c3 | exact pw_cell_below lm M.c4 | exact pw_cell_below lm M.c5 | exact pw_cell_below lm M.c6 | exact pw_cell_below lm M.c7 | exact pw_cell_below lm M.c8 | exact pw_cell_below lm M.c9 | exact pw_cell_below ln MN.c0 | exact pw_cell_below ln MN.c1 | exact pw_cell_below ln MN.c2 | exact pw_cell_below ln MN.c3 | exact pw_cell_below ln MN.c4 | exact pw_cell_below ln MN.c5 | exact pw_cell_below ln MN.c6 | exact pw_cell_below ln MN.c7 | exact pw_cell_below ln MN.c8 | exact pw_cell_below ln MN.c9)) ?_
                  refine E.GQ.run rfl rfl rfl (E.Runs.move rfl rfl) ?_
                  refine E.GQ.run rfl rfl rfl (E.Runs.move rfl rfl) ?_
                  refine E.GQ.run rfl rfl rfl (E.Runs.indexAddrA rfl rfl rfl hu29 (by assumption) (by assumption) (by assumption) (by first | rfl | assumption) rfl) ?_
                  refine E.GQ.run rfl rfl rfl (E.Runs.fieldAddr rfl rfl hu34 rfl (by assumption) rfl) ?_
                  refine E.GQ.run rfl rfl rfl (E.Runs.fieldAddr rfl rfl hu23 rfl (by assumption) rfl) ?_
                  refine E.GQ.run rfl rfl rfl (E.Runs.load rfl rfl hu3 (by first | assumption | exact E.blkc (by assumption) rfl | exact pw_cell_below L (by assumption) | exact pw_cell_below lm (by assumption) | exact pw_cell_below ln (by assumption) | exact pw_cell_below lq (by assumption) | exact pw_cell_below lm M.c0 | exact pw_cell_below lm M.c1 | exact pw_cell_below lm M.c2 | exact pw_cell_below lm M.c3 | exact pw_cell_below lm M.c4 | exact pw_cell_below lm M.c5 | exact pw_cell_below lm M.c6 | exact pw_cell_below lm M.c7 | exact pw_cell_below lm M.c8 | exact pw_cell_below lm M.c9 | exact pw_cell_below ln MN.c0 | exact pw_cell_below ln MN.c1 | exact pw_cell_below ln MN.c2 | exact pw_cell_below ln MN.c3 | exact pw_cell_below ln MN.c4 | exact pw_cell_below ln MN.c5 | exact pw_cell_below ln MN.c6 | exact pw_cell_below ln MN.c7 | exact pw_cell_below ln MN.c8 | exact pw_cell_below ln MN.c9)) ?_
                  refine E.GQ.run rfl rfl rfl (E.Runs.gtr rfl rfl rfl (decide_eq_false (by have := P2.s; omega))) ?_
                  refine E.GQ.run rfl rfl rfl (E.Runs.pick_f rfl rfl rfl) ?_
                  refine E.GQ.run rfl rfl rfl (E.Runs.move rfl rfl) ?_
                  refine E.GQ.run rfl rfl rfl (E.Runs.move rfl rfl) ?_
                  refine E.GQ.run rfl rfl rfl (E.Runs.move rfl rfl) ?_
                  refine E.GQ.run rfl rfl rfl (E.Runs.indexAddrA rfl rfl rfl hu29 (by assumption) (by assumption) (by assumption) (by first | rfl | assumption) rfl) ?_
                  refine E.GQ.run rfl rfl rfl (E.Runs.fieldAddr rfl rfl hu34 rfl (by assumption) rfl) ?_
                  refine E.GQ.run rfl rfl rfl (E.Runs.fieldAddr rfl rfl hu23 rfl (by assumption) rfl) ?_
                  refine E.GQ.run rfl rfl rfl (E.Runs.load rfl rfl hu3 (by first | assumption | exact E.blkc (by assumption) rfl | exact pw_cell_below L (by assumption) | exact pw_cell_below lm (by assumption) | exact pw_cell_below ln (by assumption) | exact pw_cell_below lq (by assumption) | exact pw_cell_below lm M.c0 | exact pw_cell_below lm M.c1 | exact pw_cell_below lm M.c2 | exact pw_cell_below lm M.c3 | exact pw_cell_below lm M.c4 | exact pw_cell_below lm M.c5 | exact pw_cell_below lm M.c6 | exact pw_cell_below lm M.c7 | exact pw_cell_below lm M.c8 | exact pw_cell_below lm M.c9 | exact pw_cell_below ln MN.c0 | exact pw_cell_below ln MN.c1 | exact pw_cell_below ln MN.c2 | exact pw_cell_below ln MN.c3 | exact pw_cell_below ln MN.c4 | exact pw_cell_below ln MN.c5 | exact pw_cell_below ln MN.c6 | exact pw_cell_below ln MN.c7 | exact pw_cell_below ln MN.c8 | exact pw_cell_below ln MN.c9)) ?_
                  refine E.GQ.run rfl rfl rfl (E.Runs.move rfl rfl) ?_
                  refine E.GQ.run rfl rfl rfl (E.Runs.move rfl rfl) ?_
                  refine E.GQ.run rfl rfl rfl (E.Runs.indexAddrA rfl rfl rfl hu29 (by assumption) (by assumption) (by assumption) (by first | rfl | assumption) rfl) ?_
                  refine E.GQ.run rfl rfl rfl (E.Runs.fieldAddr rfl rfl hu34 rfl (by assumption) rfl) ?_
                  refine E.GQ.run rfl rfl rfl (E.Runs.fieldAddr rfl rfl hu23 rfl (by assumption) rfl) ?_
                  refine E.GQ.run rfl rfl rfl (E.Runs.load rfl rfl hu3 (by first | assumption | exact E.blkc (by assumption) rfl | exact pw_cell_below L (by assumption) | exact pw_cell_below lm (by assumption) | exact pw_cell_below ln (by assumption) | exact pw_cell_below lq (by assumption) | exact pw_cell_below lm M.c0 | exact pw_cell_below lm M.c1 | exact pw_cell_below lm M.c2 | exact pw_cell_below lm M.c3 | exact pw_cell_below lm M.c4 | exact pw_cell_below lm M.c5 | exact pw_cell_below lm M.c6 | exact pw_cell_below lm M.c7 | exact pw_cell_below lm M.c8 | exact pw_cell_below lm M.c9 | exact pw_cell_below ln MN.c0 | exact pw_cell_below ln MN.c1 | exact pw_cell_below ln MN.c2 | exact pw_cell_below ln MN.c3 | exact pw_cell_below ln MN.c4 | exact pw_cell_below ln MN.c5 | exact pw_cell_below ln MN.c6 | exact pw_cell_below ln MN.c7 | exact pw_cell_below ln MN.c8 | exact pw_cell_below ln MN.c9)) ?_
                  refine E.GQ.run rfl rfl rfl (E.Runs.gtr rfl rfl rfl (decide_eq_false (by have := P2.e; omega))) ?_
                  refine E.GQ.run rfl rfl rfl (E.Runs.pick_f rfl rfl rfl) ?_
                  refine E.GQ.run rfl rfl rfl (E.Runs.move rfl rfl) ?_
                  refine E.GQ.run rfl rfl rfl (E.Runs.move rfl rfl) ?_
                  refine E.GQ.run rfl rfl rfl (E.Runs.move rfl rfl) ?_
                  refine E.GQ.run rfl rfl rfl (E.Runs.indexAddrA rfl rfl rfl hu29 (by assumption) (by assumption) (by assumption) (by first | rfl | assumption) rfl) ?_
                  refine E.GQ.run rfl rfl rfl (E.Runs.fieldAddr rfl rfl hu34 rfl (by assumption) rfl) ?_
                  refine E.GQ.run rfl rfl rfl (E.Runs.fieldAddr rfl rfl hu23 rfl (by assumption) rfl) ?_
                  refine E.GQ.run rfl rfl rfl (E.Runs.load rfl rfl hu3 (by first | assumption | exact E.blkc (by assumption) rfl | exact pw_cell_below L (by assumption) | exact pw_cell_below lm (by assumption) | exact pw_cell_below ln (by assumption) | exact pw_cell_below lq (by assumption) | exact pw_cell_below lm M.c0 | exact pw_cell_below lm M.c1 | exact pw_cell_below lm M.c2 | exact pw_cell_below lm M.c3 | exact pw_cell_below lm M.c4 | exact pw_cell_below lm M.c5 | exact pw_cell_below lm M.c6 | exact pw_cell_below lm M.c7 | exact pw_cell_below lm M.c8 | exact pw_cell_below lm M.c9 | exact pw_cell_below ln MN.c0 | exact pw_cell_below ln MN.c1 | exact pw_cell_below ln MN.c2 | exact pw_cell_below ln MN.c3 | exact pw_cell_below ln MN.c4 | exact pw_cell_below ln MN.c5 | exact pw_cell_below ln MN.c6 | exact pw_cell_below ln MN.c7 | exact pw_cell_below ln MN.c8 | exact pw_cell_below ln MN.c9)) ?_
                  refine E.GQ.run rfl rfl rfl (E.Runs.move rfl rfl) ?_
                  refine E.GQ.run rfl rfl rfl (E.Runs.move rfl rfl) ?_
                  refine E.GQ.run rfl rfl rfl (E.Runs.indexAddrA rfl rfl rfl hu29 (by assumption) (by assumption) (by assumption) (by first | rfl | assumption) rfl) ?_
                  refine E.GQ.run rfl rfl rfl (E.Runs.fieldAddr rfl rfl hu34 rfl (by assumption) rfl) ?_
                  refine E.GQ.run rfl rfl rfl (E.Runs.fieldAddr rfl rfl hu23 rfl (by assumption) rfl) ?_
                  refine E.GQ.run rfl rfl rfl (E.Runs.load rfl rfl hu3 (by first | assumption | exact E.blkc (by assumption) rfl | exact pw_cell_below L (by assumption) | exact pw_cell_below lm (by assumption) | exact pw_cell_below ln (by assumption) | exact pw_cell_below lq (by assumption) | exact pw_cell_below lm M.c0 | exact pw_cell_below lm M.c1 | exact pw_cell_below lm M.c2 | exact pw_cell_below lm M.c3 | exact pw_cell_below lm M.c4 | exact pw_cell_below lm M.c5 | exact pw_cell_below lm M.c6 | exact pw_cell_below lm M.c7 | exact pw_cell_below lm M.c8 | exact pw_cell_below lm M.c9 | exact pw_cell_below ln MN.c0 | exact pw_cell_below ln MN.c1 | exact pw_cell_below ln MN.c2 | exact pw_cell_below ln MN.c3 | exact pw_cell_below ln MN.c4 | exact pw_cell_below ln MN.c5 | exact pw_cell_below ln MN.c6 | exact pw_cell_below ln MN.c7 | exact pw_cell_below ln MN.c8 | exact pw_cell_below ln MN.c9)) ?_
                  refine E.GQ.run rfl rfl rfl (E.Runs.gtr rfl rfl rfl (decide_eq_false (by have := P2.d; omega))) ?_
                  refine E.GQ.run rfl rfl rfl (E.Runs.pick_f rfl rfl rfl) ?_
                  refine E.GQ.run rfl rfl rfl (E.Runs.move rfl rfl) ?_
                  refine E.GQ.run rfl rfl rfl (E.Runs.move rfl rfl) ?_
                  refine E.GQ.run rfl rfl rfl (E.Runs.move rfl rfl) ?_
                  refine E.GQ.run rfl rfl rfl (E.Runs.indexAddrA rfl rfl rfl hu29 (by assumption) (by assumption) (by assumption) (by first | rfl | assumption) rfl) ?_
                  refine E.GQ.run rfl rfl rfl (E.Runs.fieldAddr rfl rfl hu34 rfl (by assumption) rfl) ?_
                  refine E.GQ.run rfl rfl rfl (E.Runs.fieldAddr rfl rfl hu23 rfl (by assumption) rfl) ?_
                  refine E.GQ.run rfl rfl rfl (E.Runs.load rfl rfl hu3 (by first | assumption | exact E.blkc (by assumption) rfl | exact pw_cell_below L (by assumption) | exact pw_cell_below lm (by assumption) | exact pw_cell_below ln (by assumption) | exact pw_cell_below lq (by assumption) | exact pw_cell_below lm M.c0 | exact pw_cell_below lm M.c1 | exact pw_cell_below lm M.c2 | exact pw_cell_below lm M.c3 | exact pw_cell_below lm M.c4 | exact pw_cell_below lm M.c5 | exact pw_cell_below lm M.c6 | exact pw_cell_below lm M.c7 | exact pw_cell_below lm M.c8 | exact pw_cell_below lm M.c9 | exact pw_cell_below ln MN.c0 | exact pw_cell_below ln MN.c1 | exact pw_cell_below ln MN.c2 | exact pw_cell_below ln MN.c3 | exact pw_cell_below ln MN.c4 | exact pw_cell_below ln MN.c5 | exact pw_cell_below ln MN.c6 | exact pw_cell_below ln MN.c7 | exact pw_cell_below ln MN.c8 | exact pw_cell_below ln MN.c9)) ?_
                  refine E.GQ.run rfl rfl rfl (E.Runs.move rfl rfl) ?_
                  refine E.GQ.run rfl rfl rfl (E.Runs.move rfl rfl) ?_
                  refine E.GQ.run rfl rfl rfl (E.Runs.indexAddrA rfl rfl rfl hu29 (by assumption) (by assumption) (by assumption) (by first | rfl | assumption) rfl) ?_
                  refine E.GQ.run rfl rfl rfl (E.Runs.fieldAddr rfl rfl hu34 rfl (by assumption) rfl) ?_
                  refine E.GQ.run rfl rfl rfl (E.Runs.fieldAddr rfl rfl hu23 rfl (by assumption) rfl) ?_
                  refine E.GQ.run rfl rfl rfl (E.Runs.load rfl rfl hu3 (by first | assumption | exact E.blkc (by assumption) rfl | exact pw_cell_below L (by assumption) | exact pw_cell_below lm (by assumption) | exact pw_cell_below ln (by assumption) | exact pw_cell_below lq (by assumption) | exact pw_cell_below lm M.c0 | exact pw_cell_below lm M.c1 | exact pw_cell_below lm M.c2 | exact pw_cell_below lm M.c3 | exact pw_cell_below lm M.c4 | exact pw_cell_below lm M.c5 | exact pw_cell_below lm M.c6 | exact pw_cell_below lm M.c7 | exact pw_cell_below lm M.c8 | exact pw_cell_below lm M.c9 | exact pw_cell_below ln MN.c0 | exact pw_cell_below ln MN.c1 | exact pw_cell_below ln MN.c2 | exact pw_cell_below ln MN.c3 | exact pw_cell_below ln MN.c4 | exact pw_cell_below ln MN.c5 | exact pw_cell_below ln MN.c6 | exact pw_cell_below ln MN.c7 | exact pw_cell_below ln MN.c8 | exact pw_cell_below ln MN.c9)) ?_
                  refine E.GQ.run rfl rfl rfl (E.Runs.gtr rfl rfl rfl (decide_eq_false (by have := P2.m; omega))) ?_
                  refine E.GQ.run rfl rfl rfl (E.Runs.pick_f rfl rfl rfl) ?_
                  refine E.GQ.doneB fun v20 lD => ?_
                  replace L := below_step L lD
                  replace lm := below_step lm lD
                  replace ln := below_step ln lD
                  replace lq := below_step lq lD
                  clear lD
                  refine E.QG.code ?_
                  refine E.CG.cond_f rfl ?_
                  refine E.CG.skip ?_
                  refine E.QG.block_normal ?_
                  refine E.QG.code ?_
                  refine E.CG.list ?_
                  refine E.GL.run rfl rfl rfl (E.Runs.move rfl rfl) ?_
                  refine E.GL.run rfl rfl rfl (E.Runs.add rfl rfl rfl (IntWalk.i64_in _ (by omega))) ?_
                  refine E.GL.run rfl rfl rfl (E.Runs.assign rfl rfl) ?_
                  refine E.GL.done ?_
                  exact E.QG.round (j + 1) (E.subc rfl (E.subc rfl (E.subc rfl (E.subc rfl E.subn)))) ⟨by omega, lq⟩ (by omega)
                · refine E.GL.done ?_
                  refine E.QG.code ?_
                  refine E.CG.cond_f rfl ?_
                  refine E.CG.exit ?_
                  refine E.QG.pass_exit ?_
                  refine E.QG.pass_exit ?_
                  refine E.QG.block_here ?_
                  refine E.QG.code ?_
                  refine E.CG.seq ?_
                  refine E.CG.list ?_
                  refine E.GL.st rfl rfl rfl (E.ST.call rfl ent14 E.evn ((works_calls _).mono ?_))
                  rintro e w292 ⟨rfl, l292⟩
                  refine ⟨_, rfl, ?_⟩
                  replace L := below_step L l292
                  replace lm := below_step lm l292
                  replace ln := below_step ln l292
                  refine E.GL.run rfl rfl rfl (E.Runs.assign rfl rfl) ?_
                  refine E.GL.done ?_
                  refine E.QG.code ?_
                  refine E.CG.ret ?_
                  exact E.QG.result rfl rfl ⟨rfl, L⟩
            · refine E.GL.run rfl rfl rfl (E.Runs.move rfl rfl) ?_
              refine E.GL.skip rfl rfl rfl ?_
              refine E.GL.skip rfl rfl rfl ?_
              refine E.GL.run rfl rfl rfl (E.Runs.pick_f rfl rfl rfl) ?_
              refine E.GL.run rfl rfl rfl (E.Runs.move rfl rfl) ?_
              refine E.GL.skip rfl rfl rfl ?_
              refine E.GL.skip rfl rfl rfl ?_
              refine E.GL.skip rfl rfl rfl ?_
              refine E.GL.run rfl rfl rfl (E.Runs.pick_f rfl rfl rfl) ?_
              refine E.GL.run rfl rfl rfl (E.Runs.pick_f rfl rfl rfl) ?_
              refine E.GL.done ?_
              refine E.QG.code ?_
              refine E.CG.cond_f rfl ?_
              refine E.CG.skip ?_
              refine E.QG.code ?_
              refine E.CG.seq ?_
              refine E.CG.seq ?_
              refine E.CG.list ?_
              refine E.GL.run rfl rfl rfl (E.Runs.assign rfl rfl) ?_
              refine E.GL.done ?_
              refine E.QG.code ?_
              refine E.CG.block ?_
              have s18_b3 := b3
              have s18_b5 := b5
              have s18_b7 := b7
              have s18_L := L
              have s18_lm := lm
              have s18_ln := ln
              refine E.CG.loop (fun (j : Nat) => [(1, .slice A1 l.length c1), (10, .slice Am l.length cm), (12, .slice An l.length cn), (20, .int .i64 j)]) (fun j w' => j ≤ l.length ∧ Below w145.heap.size w145 w') (fun j => l.length - j) 0 (E.subc rfl (E.subc rfl (E.subc rfl (E.subc rfl (E.subn))))) ⟨Nat.zero_le _, Below.refl _ _⟩ ?_
              rintro j w18 ⟨hj, lq⟩
              replace L := below_step L lq
              replace lm := below_step lm lq
              replace ln := below_step ln lq
              refine E.CG.seq ?_
              refine E.CG.seq ?_
              refine E.CG.list ?_
              refine E.GL.run rfl rfl rfl (E.Runs.move rfl rfl) ?_
              refine E.GL.run rfl rfl rfl (E.Runs.move rfl rfl) ?_
              refine E.GL.run rfl rfl rfl (E.Runs.len rfl rfl hu26) ?_
              refine E.GL.cmp rfl rfl rfl (fun _ h => (E.Runs.lss rfl rfl rfl h)) (fun h201 => ?_) (fun h201 => ?_)
              · have hlt : j < l.length := by omega
                obtain ⟨s, hs⟩ : ∃ s, l[j]? = some s := ⟨_, List.getElem?_eq_getElem hlt⟩
                have hs' : (l.map (easeS r))[j]? = some (easeS r s) := by rw [List.getElem?_map, hs]; rfl
                obtain ⟨t, u, TO⟩ := told h23.1 (valid_slots h23) hs
                obtain ⟨t', u', TX⟩ := told VX.1 (valid_slots VX) hs'
                have q1 : (earlyDay H l)[j]? = some t := by rw [earlyDay, allE_is h23.1 (valid_slots h23)]; exact TO.te
                have q2 : (lateDay H l)[j]? = some u := by rw [lateDay, allL_is h23.1 (valid_slots h23)]; exact TO.tl
                have q3 : (earlyDay (easeH H c k d) (l.map (easeS r)))[j]? = some t' := by rw [earlyDay, allE_is VX.1 (valid_slots VX)]; exact TX.te
                have q4 : (lateDay (easeH H c k d) (l.map (easeS r)))[j]? = some u' := by rw [lateDay, allL_is VX.1 (valid_slots VX)]; exact TX.tl
                obtain ⟨P1, P2⟩ := ease_day h23 e0.1 e0.2.1 e0.2.2.1 e0.2.2.2 q1 q2 q3 q4
                obtain ⟨am, eM, M⟩ := mom_at km TO hlt
                obtain ⟨an, eN, MN⟩ := mom_at kn TX (by simpa using hlt)
                refine E.GL.done ?_
                refine E.QG.code ?_
                refine E.CG.cond_t rfl ?_
                refine E.CG.skip ?_
                refine E.QG.code ?_
                refine E.CG.seq ?_
                refine E.CG.block ?_
                refine E.CG.seq ?_
                refine E.CG.quietF (by kernel_rfl) rfl (by kernel_rfl) (by kernel_rfl) ?_
                refine E.GQ.run rfl rfl rfl (E.Runs.move rfl rfl) ?_
                refine E.GQ.run rfl rfl rfl (E.Runs.move rfl rfl) ?_
                refine E.GQ.run rfl rfl rfl (E.Runs.indexAddrA rfl rfl rfl hu29 (by assumption) (by assumption) (by assumption) (by first | rfl | assumption) rfl) ?_
                refine E.GQ.run rfl rfl rfl (E.Runs.fieldAddr rfl rfl hu34 rfl (by assumption) rfl) ?_
                refine E.GQ.run rfl rfl rfl (E.Runs.fieldAddr rfl rfl hu23 rfl (by assumption) rfl) ?_
                refine E.GQ.run rfl rfl rfl (E.Runs.load rfl rfl hu3 (by first | assumption | exact E.blkc (by assumption) rfl | exact pw_cell_below L (by assumption) | exact pw_cell_below lm (by assumption) | exact pw_cell_below ln (by assumption) | exact pw_cell_below lq (by assumption) | exact pw_cell_below lm M.c0 | exact pw_cell_below lm M.c1 | exact pw_cell_below lm M.c2 | exact pw_cell_below lm M.c3 | exact pw_cell_below lm M.c4 | exact pw_cell_below lm M.c5 | exact pw_cell_below lm M.c6 | exact pw_cell_below lm M.c7 | exact pw_cell_below lm M.c8 | exact pw_cell_below lm M.c9 | exact pw_cell_below ln MN.c0 | exact pw_cell_below ln MN.c1 | exact pw_cell_below ln MN.c2 | exact pw_cell_below ln MN.c3 | exact pw_cell_below ln MN.c4 | exact pw_cell_below ln MN.c5 | exact pw_cell_below ln MN.c6 | exact pw_cell_below ln MN.c7 | exact pw_cell_below ln MN.c8 | exact pw_cell_below ln MN.c9)) ?_
                refine E.GQ.run rfl rfl rfl (E.Runs.move rfl rfl) ?_
                refine E.GQ.run rfl rfl rfl (E.Runs.move rfl rfl) ?_
                refine E.GQ.run rfl rfl rfl (E.Runs.indexAddrA rfl rfl rfl hu29 (by assumption) (by assumption) (by assumption) (by first | rfl | assumption) rfl) ?_
                refine E.GQ.run rfl rfl rfl (E.Runs.fieldAddr rfl rfl hu34 rfl (by assumption) rfl) ?_
                refine E.GQ.run rfl rfl rfl (E.Runs.fieldAddr rfl rfl hu23 rfl (by assumption) rfl) ?_
                refine E.GQ.run rfl rfl rfl (E.Runs.load rfl rfl hu3 (by first | assumption | exact E.blkc (by assumption) rfl | exact pw_cell_below L (by assumption) | exact pw_cell_below lm (by assumption) | exact pw_cell_below ln (by assumption) | exact pw_cell_below lq (by assumption) | exact pw_cell_below lm M.c0 | exact pw_cell_below lm M.c1 | exact pw_cell_below lm M.c2 | exact pw_cell_below lm M.c3 | exact pw_cell_below lm M.c4 | exact pw_cell_below lm M.c5 | exact pw_cell_below lm M.c6 | exact pw_cell_below lm M.c7 | exact pw_cell_below lm M.c8 | exact pw_cell_below lm M.c9 | exact pw_cell_below ln MN.c0 | exact pw_cell_below ln MN.c1 | exact pw_cell_below ln MN.c2 | exact pw_cell_below ln MN.c3 | exact pw_cell_below ln MN.c4 | exact pw_cell_below ln MN.c5 | exact pw_cell_below ln MN.c6 | exact pw_cell_below ln MN.c7 | exact pw_cell_below ln MN.c8 | exact pw_cell_below ln MN.c9)) ?_
                refine E.GQ.run rfl rfl rfl (E.Runs.gtr rfl rfl rfl (decide_eq_false (by have := P2.r; omega))) ?_
                refine E.GQ.run rfl rfl rfl (E.Runs.move rfl rfl) ?_
                refine E.GQ.run rfl rfl rfl (E.Runs.move rfl rfl) ?_
                refine E.GQ.run rfl rfl rfl (E.Runs.move rfl rfl) ?_
                refine E.GQ.run rfl rfl rfl (E.Runs.indexAddrA rfl rfl rfl hu29 (by assumption) (by assumption) (by assumption) (by first | rfl | assumption) rfl) ?_
                refine E.GQ.run rfl rfl rfl (E.Runs.fieldAddr rfl rfl hu34 rfl (by assumption) rfl) ?_
                refine E.GQ.run rfl rfl rfl (E.Runs.fieldAddr rfl rfl hu23 rfl (by assumption) rfl) ?_
                refine E.GQ.run rfl rfl rfl (E.Runs.load rfl rfl hu3 (by first | assumption | exact E.blkc (by assumption) rfl | exact pw_cell_below L (by assumption) | exact pw_cell_below lm (by assumption) | exact pw_cell_below ln (by assumption) | exact pw_cell_below lq (by assumption) | exact pw_cell_below lm M.c0 | exact pw_cell_below lm M.c1 | exact pw_cell_below lm M.c2 | exact pw_cell_below lm M.c3 | exact pw_cell_below lm M.c4 | exact pw_cell_below lm M.c5 | exact pw_cell_below lm M.c6 | exact pw_cell_below lm M.c7 | exact pw_cell_below lm M.c8 | exact pw_cell_below lm M.c9 | exact pw_cell_below ln MN.c0 | exact pw_cell_below ln MN.c1 | exact pw_cell_below ln MN.c2 | exact pw_cell_below ln MN.c3 | exact pw_cell_below ln MN.c4 | exact pw_cell_below ln MN.c5 | exact pw_cell_below ln MN.c6 | exact pw_cell_below ln MN.c7 | exact pw_cell_below ln MN.c8 | exact pw_cell_below ln MN.c9)) ?_
                refine E.GQ.run rfl rfl rfl (E.Runs.move rfl rfl) ?_
                refine E.GQ.run rfl rfl rfl (E.Runs.move rfl rfl) ?_
                refine E.GQ.run rfl rfl rfl (E.Runs.indexAddrA rfl rfl rfl hu29 (by assumption) (by assumption) (by assumption) (by first | rfl | assumption) rfl) ?_
                refine E.GQ.run rfl rfl rfl (E.Runs.fieldAddr rfl rfl hu34 rfl (by assumption) rfl) ?_
                refine E.GQ.run rfl rfl rfl (E.Runs.fieldAddr rfl rfl hu23 rfl (by assumption) rfl) ?_
                refine E.GQ.run rfl rfl rfl (E.Runs.load rfl rfl hu3 (by first | assumption | exact E.blkc (by assumption) rfl | exact pw_cell_below L (by assumption) | exact pw_cell_below lm (by assumption) | exact pw_cell_below ln (by assumption) | exact pw_cell_below lq (by assumption) | exact pw_cell_below lm M.c0 | exact pw_cell_below lm M.c1 | exact pw_cell_below lm M.c2 | exact pw_cell_below lm M.c3 | exact pw_cell_below lm M.c4 | exact pw_cell_below lm M.c5 | exact pw_cell_below lm M.c6 | exact pw_cell_below lm M.c7 | exact pw_cell_below lm M.c8 | exact pw_cell_below lm M.c9 | exact pw_cell_below ln MN.c0 | exact pw_cell_below ln MN.c1 | exact pw_cell_below ln MN.c2 | exact pw_cell_below ln MN.c3 | exact pw_cell_below ln MN.c4 | exact pw_cell_below ln MN.c5 | exact pw_cell_below ln MN.c6 | exact pw_cell_below ln MN.c7 | exact pw_cell_below ln MN.c8 | exact pw_cell_below ln MN.c9)) ?_
                refine E.GQ.run rfl rfl rfl (E.Runs.gtr rfl rfl rfl (decide_eq_false (by have := P1.r; omega))) ?_
                refine E.GQ.run rfl rfl rfl (E.Runs.pick_f rfl rfl rfl) ?_
                refine E.GQ.run rfl rfl rfl (E.Runs.move rfl rfl) ?_
                refine E.GQ.run rfl rfl rfl (E.Runs.move rfl rfl) ?_
                refine E.GQ.run rfl rfl rfl (E.Runs.move rfl rfl) ?_
                refine E.GQ.run rfl rfl rfl (E.Runs.indexAddrA rfl rfl rfl hu29 (by assumption) (by assumption) (by assumption) (by first | rfl | assumption) rfl) ?_
                refine E.GQ.run rfl rfl rfl (E.Runs.fieldAddr rfl rfl hu34 rfl (by assumption) rfl) ?_
                refine E.GQ.run rfl rfl rfl (E.Runs.fieldAddr rfl rfl hu23 rfl (by assumption) rfl) ?_
                refine E.GQ.run rfl rfl rfl (E.Runs.load rfl rfl hu3 (by first | assumption | exact E.blkc (by assumption) rfl | exact pw_cell_below L (by assumption) | exact pw_cell_below lm (by assumption) | exact pw_cell_below ln (by assumption) | exact pw_cell_below lq (by assumption) | exact pw_cell_below lm M.c0 | exact pw_cell_below lm M.c1 | exact pw_cell_below lm M.c2 | exact pw_cell_below lm M.c3 | exact pw_cell_below lm M.c4 | exact pw_cell_below lm M.c5 | exact pw_cell_below lm M.c6 | exact pw_cell_below lm M.c7 | exact pw_cell_below lm M.c8 | exact pw_cell_below lm M.c9 | exact pw_cell_below ln MN.c0 | exact pw_cell_below ln MN.c1 | exact pw_cell_below ln MN.c2 | exact pw_cell_below ln MN.c3 | exact pw_cell_below ln MN.c4 | exact pw_cell_below ln MN.c5 | exact pw_cell_below ln MN.c6 | exact pw_cell_below ln MN.c7 | exact pw_cell_below ln MN.c8 | exact pw_cell_below ln MN.c9)) ?_
                refine E.GQ.run rfl rfl rfl (E.Runs.move rfl rfl) ?_
                refine E.GQ.run rfl rfl rfl (E.Runs.move rfl rfl) ?_
                refine E.GQ.run rfl rfl rfl (E.Runs.indexAddrA rfl rfl rfl hu29 (by assumption) (by assumption) (by assumption) (by first | rfl | assumption) rfl) ?_
                refine E.GQ.run rfl rfl rfl (E.Runs.fieldAddr rfl rfl hu34 rfl (by assumption) rfl) ?_
                refine E.GQ.run rfl rfl rfl (E.Runs.fieldAddr rfl rfl hu23 rfl (by assumption) rfl) ?_
                refine E.GQ.run rfl rfl rfl (E.Runs.load rfl rfl hu3 (by first | assumption | exact E.blkc (by assumption) rfl | exact pw_cell_below L (by assumption) | exact pw_cell_below lm (by assumption) | exact pw_cell_below ln (by assumption) | exact pw_cell_below lq (by assumption) | exact pw_cell_below lm M.c0 | exact pw_cell_below lm M.c1 | exact pw_cell_below lm M.c2 | exact pw_cell_below lm M.c3 | exact pw_cell_below lm M.c4 | exact pw_cell_below lm M.c5 | exact pw_cell_below lm M.c6 | exact pw_cell_below lm M.c7 | exact pw_cell_below lm M.c8 | exact pw_cell_below lm M.c9 | exact pw_cell_below ln MN.c0 | exact pw_cell_below ln MN.c1 | exact pw_cell_below ln MN.c2 | exact pw_cell_below ln MN.c3 | exact pw_cell_below ln MN.c4 | exact pw_cell_below ln MN.c5 | exact pw_cell_below ln MN.c6 | exact pw_cell_below ln MN.c7 | exact pw_cell_below ln MN.c8 | exact pw_cell_below ln MN.c9)) ?_
                refine E.GQ.run rfl rfl rfl (E.Runs.gtr rfl rfl rfl (decide_eq_false (by have := P2.s; omega))) ?_
                refine E.GQ.run rfl rfl rfl (E.Runs.pick_f rfl rfl rfl) ?_
                refine E.GQ.run rfl rfl rfl (E.Runs.move rfl rfl) ?_
                refine E.GQ.run rfl rfl rfl (E.Runs.move rfl rfl) ?_
                refine E.GQ.run rfl rfl rfl (E.Runs.move rfl rfl) ?_
                refine E.GQ.run rfl rfl rfl (E.Runs.indexAddrA rfl rfl rfl hu29 (by assumption) (by assumption) (by assumption) (by first | rfl | assumption) rfl) ?_
                refine E.GQ.run rfl rfl rfl (E.Runs.fieldAddr rfl rfl hu34 rfl (by assumption) rfl) ?_
                refine E.GQ.run rfl rfl rfl (E.Runs.fieldAddr rfl rfl hu23 rfl (by assumption) rfl) ?_
                refine E.GQ.run rfl rfl rfl (E.Runs.load rfl rfl hu3 (by first | assumption | exact E.blkc (by assumption) rfl | exact pw_cell_below L (by assumption) | exact pw_cell_below lm (by assumption) | exact pw_cell_below ln (by assumption) | exact pw_cell_below lq (by assumption) | exact pw_cell_below lm M.c0 | exact pw_cell_below lm M.c1 | exact pw_cell_below lm M.c2 | exact pw_cell_below lm M.c3 | exact pw_cell_below lm M.c4 | exact pw_cell_below lm M.c5 | exact pw_cell_below lm M.c6 | exact pw_cell_below lm M.c7 | exact pw_cell_below lm M.c8 | exact pw_cell_below lm M.c9 | exact pw_cell_below ln MN.c0 | exact pw_cell_below ln MN.c1 | exact pw_cell_below ln MN.c2 | exact pw_cell_below ln MN.c3 | exact pw_cell_below ln MN.c4 | exact pw_cell_below ln MN.c5 | exact pw_cell_below ln MN.c6 | exact pw_cell_below ln MN.c7 | exact pw_cell_below ln MN.c8 | exact pw_cell_below ln MN.c9)) ?_
                refine E.GQ.run rfl rfl rfl (E.Runs.move rfl rfl) ?_
                refine E.GQ.run rfl rfl rfl (E.Runs.move rfl rfl) ?_
                refine E.GQ.run rfl rfl rfl (E.Runs.indexAddrA rfl rfl rfl hu29 (by assumption) (by assumption) (by assumption) (by first | rfl | assumption) rfl) ?_
                refine E.GQ.run rfl rfl rfl (E.Runs.fieldAddr rfl rfl hu34 rfl (by assumption) rfl) ?_
                refine E.GQ.run rfl rfl rfl (E.Runs.fieldAddr rfl rfl hu23 rfl (by assumption) rfl) ?_
                refine E.GQ.run rfl rfl rfl (E.Runs.load rfl rfl hu3 (by first | assumption | exact E.blkc (by assumption) rfl | exact pw_cell_below L (by assumption) | exact pw_cell_below lm (by assumption) | exact pw_cell_below ln (by assumption) | exact pw_cell_below lq (by assumption) | exact pw_cell_below lm M.c0 | exact pw_cell_below lm M.c1 | exact pw_cell_below lm M.c2 | exact pw_cell_below lm M.c3 | exact pw_cell_below lm M.c4 | exact pw_cell_below lm M.c5 | exact pw_cell_below lm M.c6 | exact pw_cell_below lm M.c7 | exact pw_cell_below lm M.c8 | exact pw_cell_below lm M.c9 | exact pw_cell_below ln MN.c0 | exact pw_cell_below ln MN.c1 | exact pw_cell_below ln MN.c2 | exact pw_cell_below ln MN.c3 | exact pw_cell_below ln MN.c4 | exact pw_cell_below ln MN.c5 | exact pw_cell_below ln MN.c6 | exact pw_cell_below ln MN.c7 | exact pw_cell_below ln MN.c8 | exact pw_cell_below ln MN.c9)) ?_
                refine E.GQ.run rfl rfl rfl (E.Runs.gtr rfl rfl rfl (decide_eq_false (by have := P2.e; omega))) ?_
                refine E.GQ.run rfl rfl rfl (E.Runs.pick_f rfl rfl rfl) ?_
                refine E.GQ.run rfl rfl rfl (E.Runs.move rfl rfl) ?_
                refine E.GQ.run rfl rfl rfl (E.Runs.move rfl rfl) ?_
                refine E.GQ.run rfl rfl rfl (E.Runs.move rfl rfl) ?_
                refine E.GQ.run rfl rfl rfl (E.Runs.indexAddrA rfl rfl rfl hu29 (by assumption) (by assumption) (by assumption) (by first | rfl | assumption) rfl) ?_
                refine E.GQ.run rfl rfl rfl (E.Runs.fieldAddr rfl rfl hu34 rfl (by assumption) rfl) ?_
                refine E.GQ.run rfl rfl rfl (E.Runs.fieldAddr rfl rfl hu23 rfl (by assumption) rfl) ?_
                refine E.GQ.run rfl rfl rfl (E.Runs.load rfl rfl hu3 (by first | assumption | exact E.blkc (by assumption) rfl | exact pw_cell_below L (by assumption) | exact pw_cell_below lm (by assumption) | exact pw_cell_below ln (by assumption) | exact pw_cell_below lq (by assumption) | exact pw_cell_below lm M.c0 | exact pw_cell_below lm M.c1 | exact pw_cell_below lm M.c2 | exact pw_cell_below lm M.c3 | exact pw_cell_below lm M.c4 | exact pw_cell_below lm M.c5 | exact pw_cell_below lm M.c6 | exact pw_cell_below lm M.c7 | exact pw_cell_below lm M.c8 | exact pw_cell_below lm M.c9 | exact pw_cell_below ln MN.c0 | exact pw_cell_below ln MN.c1 | exact pw_cell_below ln MN.c2 | exact pw_cell_below ln MN.c3 | exact pw_cell_below ln MN.c4 | exact pw_cell_below ln MN.c5 | exact pw_cell_below ln MN.c6 | exact pw_cell_below ln MN.c7 | exact pw_cell_below ln MN.c8 | exact pw_cell_below ln MN.c9)) ?_
                refine E.GQ.run rfl rfl rfl (E.Runs.move rfl rfl) ?_
                refine E.GQ.run rfl rfl rfl (E.Runs.move rfl rfl) ?_
                refine E.GQ.run rfl rfl rfl (E.Runs.indexAddrA rfl rfl rfl hu29 (by assumption) (by assumption) (by assumption) (by first | rfl | assumption) rfl) ?_
                refine E.GQ.run rfl rfl rfl (E.Runs.fieldAddr rfl rfl hu34 rfl (by assumption) rfl) ?_
                refine E.GQ.run rfl rfl rfl (E.Runs.fieldAddr rfl rfl hu23 rfl (by assumption) rfl) ?_
                refine E.GQ.run rfl rfl rfl (E.Runs.load rfl rfl hu3 (by first | assumption | exact E.blkc (by assumption) rfl | exact pw_cell_below L (by assumption) | exact pw_cell_below lm (by assumption) | exact pw_cell_below ln (by assumption) | exact pw_cell_below lq (by assumption) | exact pw_cell_below lm M.c0 | exact pw_cell_below lm M.c1 | exact pw_cell_below lm M.c2 | exact pw_cell_below lm M.c3 | exact pw_cell_below lm M.c4 | exact pw_cell_below lm M.c5 | exact pw_cell_below lm M.c6 | exact pw_cell_below lm M.c7 | exact pw_cell_below lm M.c8 | exact pw_cell_below lm M.c9 | exact pw_cell_below ln MN.c0 | exact pw_cell_below ln MN.c1 | exact pw_cell_below ln MN.c2 | exact pw_cell_below ln MN.c3 | exact pw_cell_below ln MN.c4 | exact pw_cell_below ln MN.c5 | exact pw_cell_below ln MN.c6 | exact pw_cell_below ln MN.c7 | exact pw_cell_below ln MN.c8 | exact pw_cell_below ln MN.c9)) ?_
                refine E.GQ.run rfl rfl rfl (E.Runs.gtr rfl rfl rfl (decide_eq_false (by have := P2.d; omega))) ?_
                refine E.GQ.run rfl rfl rfl (E.Runs.pick_f rfl rfl rfl) ?_
                refine E.GQ.run rfl rfl rfl (E.Runs.move rfl rfl) ?_
                refine E.GQ.run rfl rfl rfl (E.Runs.move rfl rfl) ?_
                refine E.GQ.run rfl rfl rfl (E.Runs.move rfl rfl) ?_
                refine E.GQ.run rfl rfl rfl (E.Runs.indexAddrA rfl rfl rfl hu29 (by assumption) (by assumption) (by assumption) (by first | rfl | assumption) rfl) ?_
                refine E.GQ.run rfl rfl rfl (E.Runs.fieldAddr rfl rfl hu34 rfl (by assumption) rfl) ?_
                refine E.GQ.run rfl rfl rfl (E.Runs.fieldAddr rfl rfl hu23 rfl (by assumption) rfl) ?_
                refine E.GQ.run rfl rfl rfl (E.Runs.load rfl rfl hu3 (by first | assumption | exact E.blkc (by assumption) rfl | exact pw_cell_below L (by assumption) | exact pw_cell_below lm (by assumption) | exact pw_cell_below ln (by assumption) | exact pw_cell_below lq (by assumption) | exact pw_cell_below lm M.c0 | exact pw_cell_below lm M.c1 | exact pw_cell_below lm M.c2 | exact pw_cell_below lm M.c3 | exact pw_cell_below lm M.c4 | exact pw_cell_below lm M.c5 | exact pw_cell_below lm M.c6 | exact pw_cell_below lm M.c7 | exact pw_cell_below lm M.c8 | exact pw_cell_below lm M.c9 | exact pw_cell_below ln MN.c0 | exact pw_cell_below ln MN.c1 | exact pw_cell_below ln MN.c2 | exact pw_cell_below ln MN.c3 | exact pw_cell_below ln MN.c4 | exact pw_cell_below ln MN.c5 | exact pw_cell_below ln MN.c6 | exact pw_cell_below ln MN.c7 | exact pw_cell_below ln MN.c8 | exact pw_cell_below ln MN.c9)) ?_
                refine E.GQ.run rfl rfl rfl (E.Runs.move rfl rfl) ?_
                refine E.GQ.run rfl rfl rfl (E.Runs.move rfl rfl) ?_
                refine E.GQ.run rfl rfl rfl (E.Runs.indexAddrA rfl rfl rfl hu29 (by assumption) (by assumption) (by assumption) (by first | rfl | assumption) rfl) ?_
                refine E.GQ.run rfl rfl rfl (E.Runs.fieldAddr rfl rfl hu34 rfl (by assumption) rfl) ?_
                refine E.GQ.run rfl rfl rfl (E.Runs.fieldAddr rfl rfl hu23 rfl (by assumption) rfl) ?_
                refine E.GQ.run rfl rfl rfl (E.Runs.load rfl rfl hu3 (by first | assumption | exact E.blkc (by assumption) rfl | exact pw_cell_below L (by assumption) | exact pw_cell_below lm (by assumption) | exact pw_cell_below ln (by assumption) | exact pw_cell_below lq (by assumption) | exact pw_cell_below lm M.c0 | exact pw_cell_below lm M.c1 | exact pw_cell_below lm M.c2 | exact pw_cell_below lm M.c3 | exact pw_cell_below lm M.c4 | exact pw_cell_below lm M.c5 | exact pw_cell_below lm M.c6 | exact pw_cell_below lm M.c7 | exact pw_cell_below lm M.c8 | exact pw_cell_below lm M.c9 | exact pw_cell_below ln MN.c0 | exact pw_cell_below ln MN.c1 | exact pw_cell_below ln MN.c2 | exact pw_cell_below ln MN.c3 | exact pw_cell_below ln MN.c4 | exact pw_cell_below ln MN.c5 | exact pw_cell_below ln MN.c6 | exact pw_cell_below ln MN.c7 | exact pw_cell_below ln MN.c8 | exact pw_cell_below ln MN.c9)) ?_
                refine E.GQ.run rfl rfl rfl (E.Runs.gtr rfl rfl rfl (decide_eq_false (by have := P2.m; omega))) ?_
                refine E.GQ.run rfl rfl rfl (E.Runs.pick_f rfl rfl rfl) ?_
                refine E.GQ.doneB fun v20 lD => ?_
                replace L := below_step L lD
                replace lm := below_step lm lD
                replace ln := below_step ln lD
                replace lq := below_step lq lD
                clear lD
                refine E.QG.code ?_
                refine E.CG.cond_f rfl ?_
                refine E.CG.skip ?_
                refine E.QG.block_normal ?_
                refine E.QG.code ?_
                refine E.CG.list ?_
                refine E.GL.run rfl rfl rfl (E.Runs.move rfl rfl) ?_
                refine E.GL.run rfl rfl rfl (E.Runs.add rfl rfl rfl (IntWalk.i64_in _ (by omega))) ?_
                refine E.GL.run rfl rfl rfl (E.Runs.assign rfl rfl) ?_
                refine E.GL.done ?_
                exact E.QG.round (j + 1) (E.subc rfl (E.subc rfl (E.subc rfl (E.subc rfl E.subn)))) ⟨by omega, lq⟩ (by omega)
              · refine E.GL.done ?_
                refine E.QG.code ?_
                refine E.CG.cond_f rfl ?_
                refine E.CG.exit ?_
                refine E.QG.pass_exit ?_
                refine E.QG.pass_exit ?_
                refine E.QG.block_here ?_
                refine E.QG.code ?_
                refine E.CG.seq ?_
                refine E.CG.list ?_
                refine E.GL.st rfl rfl rfl (E.ST.call rfl ent14 E.evn ((works_calls _).mono ?_))
                rintro e w292 ⟨rfl, l292⟩
                refine ⟨_, rfl, ?_⟩
                replace L := below_step L l292
                replace lm := below_step lm l292
                replace ln := below_step ln l292
                refine E.GL.run rfl rfl rfl (E.Runs.assign rfl rfl) ?_
                refine E.GL.done ?_
                refine E.QG.code ?_
                refine E.CG.ret ?_
                exact E.QG.result rfl rfl ⟨rfl, L⟩
          · refine E.GL.run rfl rfl rfl (E.Runs.move rfl rfl) ?_
            refine E.GL.skip rfl rfl rfl ?_
            refine E.GL.skip rfl rfl rfl ?_
            refine E.GL.run rfl rfl rfl (E.Runs.pick_f rfl rfl rfl) ?_
            refine E.GL.run rfl rfl rfl (E.Runs.pick_f rfl rfl rfl) ?_
            refine E.GL.run rfl rfl rfl (E.Runs.move rfl rfl) ?_
            refine E.GL.run rfl rfl rfl (E.Runs.move rfl rfl) ?_
            refine E.GL.cmp rfl rfl rfl (fun _ h => (E.Runs.geq rfl rfl rfl h)) (fun h187 => ?_) (fun h187 => ?_)
            · refine E.GL.run rfl rfl rfl (E.Runs.move rfl rfl) ?_
              refine E.GL.run rfl rfl rfl (E.Runs.move rfl rfl) ?_
              refine E.GL.cmp rfl rfl rfl (fun _ h => (E.Runs.geq rfl rfl rfl h)) (fun h190 => ?_) (fun h190 => ?_)
              · refine E.GL.run rfl rfl rfl (E.Runs.pick_t rfl rfl rfl) ?_
                refine E.GL.run rfl rfl rfl (E.Runs.move rfl rfl) ?_
                refine E.GL.run rfl rfl rfl (E.Runs.move rfl rfl) ?_
                refine E.GL.run rfl rfl rfl (E.Runs.move rfl rfl) ?_
                refine E.GL.run rfl rfl rfl (E.Runs.lss rfl rfl rfl (decide_eq_false (by have := EL.2 h190; omega))) ?_
                refine E.GL.run rfl rfl rfl (E.Runs.pick_t rfl rfl rfl) ?_
                refine E.GL.run rfl rfl rfl (E.Runs.pick_f rfl rfl rfl) ?_
                refine E.GL.done ?_
                refine E.QG.code ?_
                refine E.CG.cond_f rfl ?_
                refine E.CG.skip ?_
                refine E.QG.code ?_
                refine E.CG.seq ?_
                refine E.CG.seq ?_
                refine E.CG.list ?_
                refine E.GL.run rfl rfl rfl (E.Runs.assign rfl rfl) ?_
                refine E.GL.done ?_
                refine E.QG.code ?_
                refine E.CG.block ?_
                have s18_b3 := b3
                have s18_b5 := b5
                have s18_b7 := b7
                have s18_L := L
                have s18_lm := lm
                have s18_ln := ln
                refine E.CG.loop (fun (j : Nat) => [(1, .slice A1 l.length c1), (10, .slice Am l.length cm), (12, .slice An l.length cn), (20, .int .i64 j)]) (fun j w' => j ≤ l.length ∧ Below w145.heap.size w145 w') (fun j => l.length - j) 0 (E.subc rfl (E.subc rfl (E.subc rfl (E.subc rfl (E.subn))))) ⟨Nat.zero_le _, Below.refl _ _⟩ ?_
                rintro j w18 ⟨hj, lq⟩
                replace L := below_step L lq
                replace lm := below_step lm lq
                replace ln := below_step ln lq
                refine E.CG.seq ?_
                refine E.CG.seq ?_
                refine E.CG.list ?_
                refine E.GL.run rfl rfl rfl (E.Runs.move rfl rfl) ?_
                refine E.GL.run rfl rfl rfl (E.Runs.move rfl rfl) ?_
                refine E.GL.run rfl rfl rfl (E.Runs.len rfl rfl hu26) ?_
                refine E.GL.cmp rfl rfl rfl (fun _ h => (E.Runs.lss rfl rfl rfl h)) (fun h201 => ?_) (fun h201 => ?_)
                · have hlt : j < l.length := by omega
                  obtain ⟨s, hs⟩ : ∃ s, l[j]? = some s := ⟨_, List.getElem?_eq_getElem hlt⟩
                  have hs' : (l.map (easeS r))[j]? = some (easeS r s) := by rw [List.getElem?_map, hs]; rfl
                  obtain ⟨t, u, TO⟩ := told h23.1 (valid_slots h23) hs
                  obtain ⟨t', u', TX⟩ := told VX.1 (valid_slots VX) hs'
                  have q1 : (earlyDay H l)[j]? = some t := by rw [earlyDay, allE_is h23.1 (valid_slots h23)]; exact TO.te
                  have q2 : (lateDay H l)[j]? = some u := by rw [lateDay, allL_is h23.1 (valid_slots h23)]; exact TO.tl
                  have q3 : (earlyDay (easeH H c k d) (l.map (easeS r)))[j]? = some t' := by rw [earlyDay, allE_is VX.1 (valid_slots VX)]; exact TX.te
                  have q4 : (lateDay (easeH H c k d) (l.map (easeS r)))[j]? = some u' := by rw [lateDay, allL_is VX.1 (valid_slots VX)]; exact TX.tl
                  obtain ⟨P1, P2⟩ := ease_day h23 e0.1 e0.2.1 e0.2.2.1 e0.2.2.2 q1 q2 q3 q4
                  obtain ⟨am, eM, M⟩ := mom_at km TO hlt
                  obtain ⟨an, eN, MN⟩ := mom_at kn TX (by simpa using hlt)
                  refine E.GL.done ?_
                  refine E.QG.code ?_
                  refine E.CG.cond_t rfl ?_
                  refine E.CG.skip ?_
                  refine E.QG.code ?_
                  refine E.CG.seq ?_
                  refine E.CG.block ?_
                  refine E.CG.seq ?_
                  refine E.CG.quietF (by kernel_rfl) rfl (by kernel_rfl) (by kernel_rfl) ?_
                  refine E.GQ.run rfl rfl rfl (E.Runs.move rfl rfl) ?_
                  refine E.GQ.run rfl rfl rfl (E.Runs.move rfl rfl) ?_
                  refine E.GQ.run rfl rfl rfl (E.Runs.indexAddrA rfl rfl rfl hu29 (by assumption) (by assumption) (by assumption) (by first | rfl | assumption) rfl) ?_
                  refine E.GQ.run rfl rfl rfl (E.Runs.fieldAddr rfl rfl hu34 rfl (by assumption) rfl) ?_
                  refine E.GQ.run rfl rfl rfl (E.Runs.fieldAddr rfl rfl hu23 rfl (by assumption) rfl) ?_
                  refine E.GQ.run rfl rfl rfl (E.Runs.load rfl rfl hu3 (by first | assumption | exact E.blkc (by assumption) rfl | exact pw_cell_below L (by assumption) | exact pw_cell_below lm (by assumption) | exact pw_cell_below ln (by assumption) | exact pw_cell_below lq (by assumption) | exact pw_cell_below lm M.c0 | exact pw_cell_below lm M.c1 | exact pw_cell_below lm M.c2 | exact pw_cell_below lm M.c3 | exact pw_cell_below lm M.c4 | exact pw_cell_below lm M.c5 | exact pw_cell_below lm M.c6 | exact pw_cell_below lm M.c7 | exact pw_cell_below lm M.c8 | exact pw_cell_below lm M.c9 | exact pw_cell_below ln MN.c0 | exact pw_cell_below ln MN.c1 | exact pw_cell_below ln MN.c2 | exact pw_cell_below ln MN.c3 | exact pw_cell_below ln MN.c4 | exact pw_cell_below ln MN.c5 | exact pw_cell_below ln MN.c6 | exact pw_cell_below ln MN.c7 | exact pw_cell_below ln MN.c8 | exact pw_cell_below ln MN.c9)) ?_
                  refine E.GQ.run rfl rfl rfl (E.Runs.move rfl rfl) ?_
                  refine E.GQ.run rfl rfl rfl (E.Runs.move rfl rfl) ?_
                  refine E.GQ.run rfl rfl rfl (E.Runs.indexAddrA rfl rfl rfl hu29 (by assumption) (by assumption) (by assumption) (by first | rfl | assumption) rfl) ?_
                  refine E.GQ.run rfl rfl rfl (E.Runs.fieldAddr rfl rfl hu34 rfl (by assumption) rfl) ?_
                  refine E.GQ.run rfl rfl rfl (E.Runs.fieldAddr rfl rfl hu23 rfl (by assumption) rfl) ?_
                  refine E.GQ.run rfl rfl rfl (E.Runs.load rfl rfl hu3 (by first | assumption | exact E.blkc (by assumption) rfl | exact pw_cell_below L (by assumption) | exact pw_cell_below lm (by assumption) | exact pw_cell_below ln (by assumption) | exact pw_cell_below lq (by assumption) | exact pw_cell_below lm M.c0 | exact pw_cell_below lm M.c1 | exact pw_cell_below lm M.c2 | exact pw_cell_below lm M.c3 | exact pw_cell_below lm M.c4 | exact pw_cell_below lm M.c5 | exact pw_cell_below lm M.c6 | exact pw_cell_below lm M.c7 | exact pw_cell_below lm M.c8 | exact pw_cell_below lm M.c9 | exact pw_cell_below ln MN.c0 | exact pw_cell_below ln MN.c1 | exact pw_cell_below ln MN.c2 | exact pw_cell_below ln MN.c3 | exact pw_cell_below ln MN.c4 | exact pw_cell_below ln MN.c5 | exact pw_cell_below ln MN.c6 | exact pw_cell_below ln MN.c7 | exact pw_cell_below ln MN.c8 | exact pw_cell_below ln MN.c9)) ?_
                  refine E.GQ.run rfl rfl rfl (E.Runs.gtr rfl rfl rfl (decide_eq_false (by have := P2.r; omega))) ?_
                  refine E.GQ.run rfl rfl rfl (E.Runs.move rfl rfl) ?_
                  refine E.GQ.run rfl rfl rfl (E.Runs.move rfl rfl) ?_
                  refine E.GQ.run rfl rfl rfl (E.Runs.move rfl rfl) ?_
                  refine E.GQ.run rfl rfl rfl (E.Runs.indexAddrA rfl rfl rfl hu29 (by assumption) (by assumption) (by assumption) (by first | rfl | assumption) rfl) ?_
                  refine E.GQ.run rfl rfl rfl (E.Runs.fieldAddr rfl rfl hu34 rfl (by assumption) rfl) ?_
                  refine E.GQ.run rfl rfl rfl (E.Runs.fieldAddr rfl rfl hu23 rfl (by assumption) rfl) ?_
                  refine E.GQ.run rfl rfl rfl (E.Runs.load rfl rfl hu3 (by first | assumption | exact E.blkc (by assumption) rfl | exact pw_cell_below L (by assumption) | exact pw_cell_below lm (by assumption) | exact pw_cell_below ln (by assumption) | exact pw_cell_below lq (by assumption) | exact pw_cell_below lm M.c0 | exact pw_cell_below lm M.c1 | exact pw_cell_below lm M.c2 | exact pw_cell_below lm M.c3 | exact pw_cell_below lm M.c4 | exact pw_cell_below lm M.c5 | exact pw_cell_below lm M.c6 | exact pw_cell_below lm M.c7 | exact pw_cell_below lm M.c8 | exact pw_cell_below lm M.c9 | exact pw_cell_below ln MN.c0 | exact pw_cell_below ln MN.c1 | exact pw_cell_below ln MN.c2 | exact pw_cell_below ln MN.c3 | exact pw_cell_below ln MN.c4 | exact pw_cell_below ln MN.c5 | exact pw_cell_below ln MN.c6 | exact pw_cell_below ln MN.c7 | exact pw_cell_below ln MN.c8 | exact pw_cell_below ln MN.c9)) ?_
                  refine E.GQ.run rfl rfl rfl (E.Runs.move rfl rfl) ?_
                  refine E.GQ.run rfl rfl rfl (E.Runs.move rfl rfl) ?_
                  refine E.GQ.run rfl rfl rfl (E.Runs.indexAddrA rfl rfl rfl hu29 (by assumption) (by assumption) (by assumption) (by first | rfl | assumption) rfl) ?_
                  refine E.GQ.run rfl rfl rfl (E.Runs.fieldAddr rfl rfl hu34 rfl (by assumption) rfl) ?_
                  refine E.GQ.run rfl rfl rfl (E.Runs.fieldAddr rfl rfl hu23 rfl (by assumption) rfl) ?_
                  refine E.GQ.run rfl rfl rfl (E.Runs.load rfl rfl hu3 (by first | assumption | exact E.blkc (by assumption) rfl | exact pw_cell_below L (by assumption) | exact pw_cell_below lm (by assumption) | exact pw_cell_below ln (by assumption) | exact pw_cell_below lq (by assumption) | exact pw_cell_below lm M.c0 | exact pw_cell_below lm M.c1 | exact pw_cell_below lm M.c2 | exact pw_cell_below lm M.c3 | exact pw_cell_below lm M.c4 | exact pw_cell_below lm M.c5 | exact pw_cell_below lm M.c6 | exact pw_cell_below lm M.c7 | exact pw_cell_below lm M.c8 | exact pw_cell_below lm M.c9 | exact pw_cell_below ln MN.c0 | exact pw_cell_below ln MN.c1 | exact pw_cell_below ln MN.c2 | exact pw_cell_below ln MN.c3 | exact pw_cell_below ln MN.c4 | exact pw_cell_below ln MN.c5 | exact pw_cell_below ln MN.c6 | exact pw_cell_below ln MN.c7 | exact pw_cell_below ln MN.c8 | exact pw_cell_below ln MN.c9)) ?_
                  refine E.GQ.run rfl rfl rfl (E.Runs.gtr rfl rfl rfl (decide_eq_false (by have := P1.r; omega))) ?_
                  refine E.GQ.run rfl rfl rfl (E.Runs.pick_f rfl rfl rfl) ?_
                  refine E.GQ.run rfl rfl rfl (E.Runs.move rfl rfl) ?_
                  refine E.GQ.run rfl rfl rfl (E.Runs.move rfl rfl) ?_
                  refine E.GQ.run rfl rfl rfl (E.Runs.move rfl rfl) ?_
                  refine E.GQ.run rfl rfl rfl (E.Runs.indexAddrA rfl rfl rfl hu29 (by assumption) (by assumption) (by assumption) (by first | rfl | assumption) rfl) ?_
                  refine E.GQ.run rfl rfl rfl (E.Runs.fieldAddr rfl rfl hu34 rfl (by assumption) rfl) ?_
                  refine E.GQ.run rfl rfl rfl (E.Runs.fieldAddr rfl rfl hu23 rfl (by assumption) rfl) ?_
                  refine E.GQ.run rfl rfl rfl (E.Runs.load rfl rfl hu3 (by first | assumption | exact E.blkc (by assumption) rfl | exact pw_cell_below L (by assumption) | exact pw_cell_below lm (by assumption) | exact pw_cell_below ln (by assumption) | exact pw_cell_below lq (by assumption) | exact pw_cell_below lm M.c0 | exact pw_cell_below lm M.c1 | exact pw_cell_below lm M.c2 | exact pw_cell_below lm M.c3 | exact pw_cell_below lm M.c4 | exact pw_cell_below lm M.c5 | exact pw_cell_below lm M.c6 | exact pw_cell_below lm M.c7 | exact pw_cell_below lm M.c8 | exact pw_cell_below lm M.c9 | exact pw_cell_below ln MN.c0 | exact pw_cell_below ln MN.c1 | exact pw_cell_below ln MN.c2 | exact pw_cell_below ln MN.c3 | exact pw_cell_below ln MN.c4 | exact pw_cell_below ln MN.c5 | exact pw_cell_below ln MN.c6 | exact pw_cell_below ln MN.c7 | exact pw_cell_below ln MN.c8 | exact pw_cell_below ln MN.c9)) ?_
                  refine E.GQ.run rfl rfl rfl (E.Runs.move rfl rfl) ?_
                  refine E.GQ.run rfl rfl rfl (E.Runs.move rfl rfl) ?_
                  refine E.GQ.run rfl rfl rfl (E.Runs.indexAddrA rfl rfl rfl hu29 (by assumption) (by assumption) (by assumption) (by first | rfl | assumption) rfl) ?_
                  refine E.GQ.run rfl rfl rfl (E.Runs.fieldAddr rfl rfl hu34 rfl (by assumption) rfl) ?_
                  refine E.GQ.run rfl rfl rfl (E.Runs.fieldAddr rfl rfl hu23 rfl (by assumption) rfl) ?_
                  refine E.GQ.run rfl rfl rfl (E.Runs.load rfl rfl hu3 (by first | assumption | exact E.blkc (by assumption) rfl | exact pw_cell_below L (by assumption) | exact pw_cell_below lm (by assumption) | exact pw_cell_below ln (by assumption) | exact pw_cell_below lq (by assumption) | exact pw_cell_below lm M.c0 | exact pw_cell_below lm M.c1 | exact pw_cell_below lm M.c2 | exact pw_cell_below lm M.c3 | exact pw_cell_below lm M.c4 | exact pw_cell_below lm M.c5 | exact pw_cell_below lm M.c6 | exact pw_cell_below lm M.c7 | exact pw_cell_below lm M.c8 | exact pw_cell_below lm M.c9 | exact pw_cell_below ln MN.c0 | exact pw_cell_below ln MN.c1 | exact pw_cell_below ln MN.c2 | exact pw_cell_below ln MN.c3 | exact pw_cell_below ln MN.c4 | exact pw_cell_below ln MN.c5 | exact pw_cell_below ln MN.c6 | exact pw_cell_below ln MN.c7 | exact pw_cell_below ln MN.c8 | exact pw_cell_below ln MN.c9)) ?_
                  refine E.GQ.run rfl rfl rfl (E.Runs.gtr rfl rfl rfl (decide_eq_false (by have := P2.s; omega))) ?_
                  refine E.GQ.run rfl rfl rfl (E.Runs.pick_f rfl rfl rfl) ?_
                  refine E.GQ.run rfl rfl rfl (E.Runs.move rfl rfl) ?_
                  refine E.GQ.run rfl rfl rfl (E.Runs.move rfl rfl) ?_
                  refine E.GQ.run rfl rfl rfl (E.Runs.move rfl rfl) ?_
                  refine E.GQ.run rfl rfl rfl (E.Runs.indexAddrA rfl rfl rfl hu29 (by assumption) (by assumption) (by assumption) (by first | rfl | assumption) rfl) ?_
                  refine E.GQ.run rfl rfl rfl (E.Runs.fieldAddr rfl rfl hu34 rfl (by assumption) rfl) ?_
                  refine E.GQ.run rfl rfl rfl (E.Runs.fieldAddr rfl rfl hu23 rfl (by assumption) rfl) ?_
                  refine E.GQ.run rfl rfl rfl (E.Runs.load rfl rfl hu3 (by first | assumption | exact E.blkc (by assumption) rfl | exact pw_cell_below L (by assumption) | exact pw_cell_below lm (by assumption) | exact pw_cell_below ln (by assumption) | exact pw_cell_below lq (by assumption) | exact pw_cell_below lm M.c0 | exact pw_cell_below lm M.c1 | exact pw_cell_below lm M.c2 | exact pw_cell_below lm M.c3 | exact pw_cell_below lm M.c4 | exact pw_cell_below lm M.c5 | exact pw_cell_below lm M.c6 | exact pw_cell_below lm M.c7 | exact pw_cell_below lm M.c8 | exact pw_cell_below lm M.c9 | exact pw_cell_below ln MN.c0 | exact pw_cell_below ln MN.c1 | exact pw_cell_below ln MN.c2 | exact pw_cell_below ln MN.c3 | exact pw_cell_below ln MN.c4 | exact pw_cell_below ln MN.c5 | exact pw_cell_below ln MN.c6 | exact pw_cell_below ln MN.c7 | exact pw_cell_below ln MN.c8 | exact pw_cell_below ln MN.c9)) ?_
                  refine E.GQ.run rfl rfl rfl (E.Runs.move rfl rfl) ?_
                  refine E.GQ.run rfl rfl rfl (E.Runs.move rfl rfl) ?_
                  refine E.GQ.run rfl rfl rfl (E.Runs.indexAddrA rfl rfl rfl hu29 (by assumption) (by assumption) (by assumption) (by first | rfl | assumption) rfl) ?_
                  refine E.GQ.run rfl rfl rfl (E.Runs.fieldAddr rfl rfl hu34 rfl (by assumption) rfl) ?_
                  refine E.GQ.run rfl rfl rfl (E.Runs.fieldAddr rfl rfl hu23 rfl (by assumption) rfl) ?_
                  refine E.GQ.run rfl rfl rfl (E.Runs.load rfl rfl hu3 (by first | assumption | exact E.blkc (by assumption) rfl | exact pw_cell_below L (by assumption) | exact pw_cell_below lm (by assumption) | exact pw_cell_below ln (by assumption) | exact pw_cell_below lq (by assumption) | exact pw_cell_below lm M.c0 | exact pw_cell_below lm M.c1 | exact pw_cell_below lm M.c2 | exact pw_cell_below lm M.c3 | exact pw_cell_below lm M.c4 | exact pw_cell_below lm M.c5 | exact pw_cell_below lm M.c6 | exact pw_cell_below lm M.c7 | exact pw_cell_below lm M.c8 | exact pw_cell_below lm M.c9 | exact pw_cell_below ln MN.c0 | exact pw_cell_below ln MN.c1 | exact pw_cell_below ln MN.c2 | exact pw_cell_below ln MN.c3 | exact pw_cell_below ln MN.c4 | exact pw_cell_below ln MN.c5 | exact pw_cell_below ln MN.c6 | exact pw_cell_below ln MN.c7 | exact pw_cell_below ln MN.c8 | exact pw_cell_below ln MN.c9)) ?_
                  refine E.GQ.run rfl rfl rfl (E.Runs.gtr rfl rfl rfl (decide_eq_false (by have := P2.e; omega))) ?_
                  refine E.GQ.run rfl rfl rfl (E.Runs.pick_f rfl rfl rfl) ?_
                  refine E.GQ.run rfl rfl rfl (E.Runs.move rfl rfl) ?_
                  refine E.GQ.run rfl rfl rfl (E.Runs.move rfl rfl) ?_
                  refine E.GQ.run rfl rfl rfl (E.Runs.move rfl rfl) ?_
                  refine E.GQ.run rfl rfl rfl (E.Runs.indexAddrA rfl rfl rfl hu29 (by assumption) (by assumption) (by assumption) (by first | rfl | assumption) rfl) ?_
                  refine E.GQ.run rfl rfl rfl (E.Runs.fieldAddr rfl rfl hu34 rfl (by assumption) rfl) ?_
                  refine E.GQ.run rfl rfl rfl (E.Runs.fieldAddr rfl rfl hu23 rfl (by assumption) rfl) ?_
                  refine E.GQ.run rfl rfl rfl (E.Runs.load rfl rfl hu3 (by first | assumption | exact E.blkc (by assumption) rfl | exact pw_cell_below L (by assumption) | exact pw_cell_below lm (by assumption) | exact pw_cell_below ln (by assumption) | exact pw_cell_below lq (by assumption) | exact pw_cell_below lm M.c0 | exact pw_cell_below lm M.c1 | exact pw_cell_below lm M.c2 | exact pw_cell_below lm M.c3 | exact pw_cell_below lm M.c4 | exact pw_cell_below lm M.c5 | exact pw_cell_below lm M.c6 | exact pw_cell_below lm M.c7 | exact pw_cell_below lm M.c8 | exact pw_cell_below lm M.c9 | exact pw_cell_below ln MN.c0 | exact pw_cell_below ln MN.c1 | exact pw_cell_below ln MN.c2 | exact pw_cell_below ln MN.c3 | exact pw_cell_below ln MN.c4 | exact pw_cell_below ln MN.c5 | exact pw_cell_below ln MN.c6 | exact pw_cell_below ln MN.c7 | exact pw_cell_below ln MN.c8 | exact pw_cell_below ln MN.c9)) ?_
                  refine E.GQ.run rfl rfl rfl (E.Runs.move rfl rfl) ?_
                  refine E.GQ.run rfl rfl rfl (E.Runs.move rfl rfl) ?_
                  refine E.GQ.run rfl rfl rfl (E.Runs.indexAddrA rfl rfl rfl hu29 (by assumption) (by assumption) (by assumption) (by first | rfl | assumption) rfl) ?_
                  refine E.GQ.run rfl rfl rfl (E.Runs.fieldAddr rfl rfl hu34 rfl (by assumption) rfl) ?_
                  refine E.GQ.run rfl rfl rfl (E.Runs.fieldAddr rfl rfl hu23 rfl (by assumption) rfl) ?_
                  refine E.GQ.run rfl rfl rfl (E.Runs.load rfl rfl hu3 (by first | assumption | exact E.blkc (by assumption) rfl | exact pw_cell_below L (by assumption) | exact pw_cell_below lm (by assumption) | exact pw_cell_below ln (by assumption) | exact pw_cell_below lq (by assumption) | exact pw_cell_below lm M.c0 | exact pw_cell_below lm M.c1 | exact pw_cell_below lm M.c2 | exact pw_cell_below lm M.c3 | exact pw_cell_below lm M.c4 | exact pw_cell_below lm M.c5 | exact pw_cell_below lm M.c6 | exact pw_cell_below lm M.c7 | exact pw_cell_below lm M.c8 | exact pw_cell_below lm M.c9 | exact pw_cell_below ln MN.c0 | exact pw_cell_below ln MN.c1 | exact pw_cell_below ln MN.c2 | exact pw_cell_below ln MN.c3 | exact pw_cell_below ln MN.c4 | exact pw_cell_below ln MN.c5 | exact pw_cell_below ln MN.c6 | exact pw_cell_below ln MN.c7 | exact pw_cell_below ln MN.c8 | exact pw_cell_below ln MN.c9)) ?_
                  refine E.GQ.run rfl rfl rfl (E.Runs.gtr rfl rfl rfl (decide_eq_false (by have := P2.d; omega))) ?_
                  refine E.GQ.run rfl rfl rfl (E.Runs.pick_f rfl rfl rfl) ?_
                  refine E.GQ.run rfl rfl rfl (E.Runs.move rfl rfl) ?_
                  refine E.GQ.run rfl rfl rfl (E.Runs.move rfl rfl) ?_
                  refine E.GQ.run rfl rfl rfl (E.Runs.move rfl rfl) ?_
                  refine E.GQ.run rfl rfl rfl (E.Runs.indexAddrA rfl rfl rfl hu29 (by assumption) (by assumption) (by assumption) (by first | rfl | assumption) rfl) ?_
                  refine E.GQ.run rfl rfl rfl (E.Runs.fieldAddr rfl rfl hu34 rfl (by assumption) rfl) ?_
                  refine E.GQ.run rfl rfl rfl (E.Runs.fieldAddr rfl rfl hu23 rfl (by assumption) rfl) ?_
                  refine E.GQ.run rfl rfl rfl (E.Runs.load rfl rfl hu3 (by first | assumption | exact E.blkc (by assumption) rfl | exact pw_cell_below L (by assumption) | exact pw_cell_below lm (by assumption) | exact pw_cell_below ln (by assumption) | exact pw_cell_below lq (by assumption) | exact pw_cell_below lm M.c0 | exact pw_cell_below lm M.c1 | exact pw_cell_below lm M.c2 | exact pw_cell_below lm M.c3 | exact pw_cell_below lm M.c4 | exact pw_cell_below lm M.c5 | exact pw_cell_below lm M.c6 | exact pw_cell_below lm M.c7 | exact pw_cell_below lm M.c8 | exact pw_cell_below lm M.c9 | exact pw_cell_below ln MN.c0 | exact pw_cell_below ln MN.c1 | exact pw_cell_below ln MN.c2 | exact pw_cell_below ln MN.c3 | exact pw_cell_below ln MN.c4 | exact pw_cell_below ln MN.c5 | exact pw_cell_below ln MN.c6 | exact pw_cell_below ln MN.c7 | exact pw_cell_below ln MN.c8 | exact pw_cell_below ln MN.c9)) ?_
                  refine E.GQ.run rfl rfl rfl (E.Runs.move rfl rfl) ?_
                  refine E.GQ.run rfl rfl rfl (E.Runs.move rfl rfl) ?_
                  refine E.GQ.run rfl rfl rfl (E.Runs.indexAddrA rfl rfl rfl hu29 (by assumption) (by assumption) (by assumption) (by first | rfl | assumption) rfl) ?_
                  refine E.GQ.run rfl rfl rfl (E.Runs.fieldAddr rfl rfl hu34 rfl (by assumption) rfl) ?_
                  refine E.GQ.run rfl rfl rfl (E.Runs.fieldAddr rfl rfl hu23 rfl (by assumption) rfl) ?_
                  refine E.GQ.run rfl rfl rfl (E.Runs.load rfl rfl hu3 (by first | assumption | exact E.blkc (by assumption) rfl | exact pw_cell_below L (by assumption) | exact pw_cell_below lm (by assumption) | exact pw_cell_below ln (by assumption) | exact pw_cell_below lq (by assumption) | exact pw_cell_below lm M.c0 | exact pw_cell_below lm M.c1 | exact pw_cell_below lm M.c2 | exact pw_cell_below lm M.c3 | exact pw_cell_below lm M.c4 | exact pw_cell_below lm M.c5 | exact pw_cell_below lm M.c6 | exact pw_cell_below lm M.c7 | exact pw_cell_below lm M.c8 | exact pw_cell_below lm M.c9 | exact pw_cell_below ln MN.c0 | exact pw_cell_below ln MN.c1 | exact pw_cell_below ln MN.c2 | exact pw_cell_below ln MN.c3 | exact pw_cell_below ln MN.c4 | exact pw_cell_below ln MN.c5 | exact pw_cell_below ln MN.c6 | exact pw_cell_below ln MN.c7 | exact pw_cell_below ln MN.c8 | exact pw_cell_below ln MN.c9)) ?_
                  refine E.GQ.run rfl rfl rfl (E.Runs.gtr rfl rfl rfl (decide_eq_false (by have := P2.m; omega))) ?_
                  refine E.GQ.run rfl rfl rfl (E.Runs.pick_f rfl rfl rfl) ?_
                  refine E.GQ.doneB fun v20 lD => ?_
                  replace L := below_step L lD
                  replace lm := below_step lm lD
                  replace ln := below_step ln lD
                  replace lq := below_step lq lD
                  clear lD
                  refine E.QG.code ?_
                  refine E.CG.cond_f rfl ?_
                  refine E.CG.skip ?_
                  refine E.QG.block_normal ?_
                  refine E.QG.code ?_
                  refine E.CG.list ?_
                  refine E.GL.run rfl rfl rfl (E.Runs.move rfl rfl) ?_
                  refine E.GL.run rfl rfl rfl (E.Runs.add rfl rfl rfl (IntWalk.i64_in _ (by omega))) ?_
                  refine E.GL.run rfl rfl rfl (E.Runs.assign rfl rfl) ?_
                  refine E.GL.done ?_
                  exact E.QG.round (j + 1) (E.subc rfl (E.subc rfl (E.subc rfl (E.subc rfl E.subn)))) ⟨by omega, lq⟩ (by omega)
                · refine E.GL.done ?_
                  refine E.QG.code ?_
                  refine E.CG.cond_f rfl ?_
                  refine E.CG.exit ?_
                  refine E.QG.pass_exit ?_
                  refine E.QG.pass_exit ?_
                  refine E.QG.block_here ?_
                  refine E.QG.code ?_
                  refine E.CG.seq ?_
                  refine E.CG.list ?_
                  refine E.GL.st rfl rfl rfl (E.ST.call rfl ent14 E.evn ((works_calls _).mono ?_))
                  rintro e w292 ⟨rfl, l292⟩
                  refine ⟨_, rfl, ?_⟩
                  replace L := below_step L l292
                  replace lm := below_step lm l292
                  replace ln := below_step ln l292
                  refine E.GL.run rfl rfl rfl (E.Runs.assign rfl rfl) ?_
                  refine E.GL.done ?_
                  refine E.QG.code ?_
                  refine E.CG.ret ?_
                  exact E.QG.result rfl rfl ⟨rfl, L⟩
              · refine E.GL.run rfl rfl rfl (E.Runs.pick_t rfl rfl rfl) ?_
                refine E.GL.run rfl rfl rfl (E.Runs.move rfl rfl) ?_
                refine E.GL.skip rfl rfl rfl ?_
                refine E.GL.skip rfl rfl rfl ?_
                refine E.GL.skip rfl rfl rfl ?_
                refine E.GL.run rfl rfl rfl (E.Runs.pick_f rfl rfl rfl) ?_
                refine E.GL.run rfl rfl rfl (E.Runs.pick_f rfl rfl rfl) ?_
                refine E.GL.done ?_
                refine E.QG.code ?_
                refine E.CG.cond_f rfl ?_
                refine E.CG.skip ?_
                refine E.QG.code ?_
                refine E.CG.seq ?_
                refine E.CG.seq ?_
                refine E.CG.list ?_
                refine E.GL.run rfl rfl rfl (E.Runs.assign rfl rfl) ?_
                refine E.GL.done ?_
                refine E.QG.code ?_
                refine E.CG.block ?_
                have s18_b3 := b3
                have s18_b5 := b5
                have s18_b7 := b7
                have s18_L := L
                have s18_lm := lm
                have s18_ln := ln
                refine E.CG.loop (fun (j : Nat) => [(1, .slice A1 l.length c1), (10, .slice Am l.length cm), (12, .slice An l.length cn), (20, .int .i64 j)]) (fun j w' => j ≤ l.length ∧ Below w145.heap.size w145 w') (fun j => l.length - j) 0 (E.subc rfl (E.subc rfl (E.subc rfl (E.subc rfl (E.subn))))) ⟨Nat.zero_le _, Below.refl _ _⟩ ?_
                rintro j w18 ⟨hj, lq⟩
                replace L := below_step L lq
                replace lm := below_step lm lq
                replace ln := below_step ln lq
                refine E.CG.seq ?_
                refine E.CG.seq ?_
                refine E.CG.list ?_
                refine E.GL.run rfl rfl rfl (E.Runs.move rfl rfl) ?_
                refine E.GL.run rfl rfl rfl (E.Runs.move rfl rfl) ?_
                refine E.GL.run rfl rfl rfl (E.Runs.len rfl rfl hu26) ?_
                refine E.GL.cmp rfl rfl rfl (fun _ h => (E.Runs.lss rfl rfl rfl h)) (fun h201 => ?_) (fun h201 => ?_)
                · have hlt : j < l.length := by omega
                  obtain ⟨s, hs⟩ : ∃ s, l[j]? = some s := ⟨_, List.getElem?_eq_getElem hlt⟩
                  have hs' : (l.map (easeS r))[j]? = some (easeS r s) := by rw [List.getElem?_map, hs]; rfl
                  obtain ⟨t, u, TO⟩ := told h23.1 (valid_slots h23) hs
                  obtain ⟨t', u', TX⟩ := told VX.1 (valid_slots VX) hs'
                  have q1 : (earlyDay H l)[j]? = some t := by rw [earlyDay, allE_is h23.1 (valid_slots h23)]; exact TO.te
                  have q2 : (lateDay H l)[j]? = some u := by rw [lateDay, allL_is h23.1 (valid_slots h23)]; exact TO.tl
                  have q3 : (earlyDay (easeH H c k d) (l.map (easeS r)))[j]? = some t' := by rw [earlyDay, allE_is VX.1 (valid_slots VX)]; exact TX.te
                  have q4 : (lateDay (easeH H c k d) (l.map (easeS r)))[j]? = some u' := by rw [lateDay, allL_is VX.1 (valid_slots VX)]; exact TX.tl
                  obtain ⟨P1, P2⟩ := ease_day h23 e0.1 e0.2.1 e0.2.2.1 e0.2.2.2 q1 q2 q3 q4
                  obtain ⟨am, eM, M⟩ := mom_at km TO hlt
                  obtain ⟨an, eN, MN⟩ := mom_at kn TX (by simpa using hlt)
                  refine E.GL.done ?_
                  refine E.QG.code ?_
                  refine E.CG.cond_t rfl ?_
                  refine E.CG.skip ?_
                  refine E.QG.code ?_
                  refine E.CG.seq ?_
                  refine E.CG.block ?_
                  refine E.CG.seq ?_
                  refine E.CG.quietF (by kernel_rfl) rfl (by kernel_rfl) (by kernel_rfl) ?_
                  refine E.GQ.run rfl rfl rfl (E.Runs.move rfl rfl) ?_
                  refine E.GQ.run rfl rfl rfl (E.Runs.move rfl rfl) ?_
                  refine E.GQ.run rfl rfl rfl (E.Runs.indexAddrA rfl rfl rfl hu29 (by assumption) (by assumption) (by assumption) (by first | rfl | assumption) rfl) ?_
                  refine E.GQ.run rfl rfl rfl (E.Runs.fieldAddr rfl rfl hu34 rfl (by assumption) rfl) ?_
                  refine E.GQ.run rfl rfl rfl (E.Runs.fieldAddr rfl rfl hu23 rfl (by assumption) rfl) ?_
                  refine E.GQ.run rfl rfl rfl (E.Runs.load rfl rfl hu3 (by first | assumption | exact E.blkc (by assumption) rfl | exact pw_cell_below L (by assumption) | exact pw_cell_below lm (by assumption) | exact pw_cell_below ln (by assumption) | exact pw_cell_below lq (by assumption) | exact pw_cell_below lm M.c0 | exact pw_cell_below lm M.c1 | exact pw_cell_below lm M.c2 | exact pw_cell_below lm M.c3 | exact pw_cell_below lm M.c4 | exact pw_cell_below lm M.c5 | exact pw_cell_below lm M.c6 | exact pw_cell_below lm M.c7 | exact pw_cell_below lm M.c8 | exact pw_cell_below lm M.c9 | exact pw_cell_below ln MN.c0 | exact pw_cell_below ln MN.c1 | exact pw_cell_below ln MN.c2 | exact pw_cell_below ln MN.c3 | exact pw_cell_below ln MN.c4 | exact pw_cell_below ln MN.c5 | exact pw_cell_below ln MN.c6 | exact pw_cell_below ln MN.c7 | exact pw_cell_below ln MN.c8 | exact pw_cell_below ln MN.c9)) ?_
                  refine E.GQ.run rfl rfl rfl (E.Runs.move rfl rfl) ?_
                  refine E.GQ.run rfl rfl rfl (E.Runs.move rfl rfl) ?_
                  refine E.GQ.run rfl rfl rfl (E.Runs.indexAddrA rfl rfl rfl hu29 (by assumption) (by assumption) (by assumption) (by first | rfl | assumption) rfl) ?_
                  refine E.GQ.run rfl rfl rfl (E.Runs.fieldAddr rfl rfl hu34 rfl (by assumption) rfl) ?_
                  refine E.GQ.run rfl rfl rfl (E.Runs.fieldAddr rfl rfl hu23 rfl (by assumption) rfl) ?_
                  refine E.GQ.run rfl rfl rfl (E.Runs.load rfl rfl hu3 (by first | assumption | exact E.blkc (by assumption) rfl | exact pw_cell_below L (by assumption) | exact pw_cell_below lm (by assumption) | exact pw_cell_below ln (by assumption) | exact pw_cell_below lq (by assumption) | exact pw_cell_below lm M.c0 | exact pw_cell_below lm M.c1 | exact pw_cell_below lm M.c2 | exact pw_cell_below lm M.c3 | exact pw_cell_below lm M.c4 | exact pw_cell_below lm M.c5 | exact pw_cell_below lm M.c6 | exact pw_cell_below lm M.c7 | exact pw_cell_below lm M.c8 | exact pw_cell_below lm M.c9 | exact pw_cell_below ln MN.c0 | exact pw_cell_below ln MN.c1 | exact pw_cell_below ln MN.c2 | exact pw_cell_below ln MN.c3 | exact pw_cell_below ln MN.c4 | exact pw_cell_below ln MN.c5 | exact pw_cell_below ln MN.c6 | exact pw_cell_below ln MN.c7 | exact pw_cell_below ln MN.c8 | exact pw_cell_below ln MN.c9)) ?_
                  refine E.GQ.run rfl rfl rfl (E.Runs.gtr rfl rfl rfl (decide_eq_false (by have := P2.r; omega))) ?_
                  refine E.GQ.run rfl rfl rfl (E.Runs.move rfl rfl) ?_
                  refine E.GQ.run rfl rfl rfl (E.Runs.move rfl rfl) ?_
                  refine E.GQ.run rfl rfl rfl (E.Runs.move rfl rfl) ?_
                  refine E.GQ.run rfl rfl rfl (E.Runs.indexAddrA rfl rfl rfl hu29 (by assumption) (by assumption) (by assumption) (by first | rfl | assumption) rfl) ?_
                  refine E.GQ.run rfl rfl rfl (E.Runs.fieldAddr rfl rfl hu34 rfl (by assumption) rfl) ?_
                  refine E.GQ.run rfl rfl rfl (E.Runs.fieldAddr rfl rfl hu23 rfl (by assumption) rfl) ?_
                  refine E.GQ.run rfl rfl rfl (E.Runs.load rfl rfl hu3 (by first | assumption | exact E.blkc (by assumption) rfl | exact pw_cell_below L (by assumption) | exact pw_cell_below lm (by assumption) | exact pw_cell_below ln (by assumption) | exact pw_cell_below lq (by assumption) | exact pw_cell_below lm M.c0 | exact pw_cell_below lm M.c1 | exact pw_cell_below lm M.c2 | exact pw_cell_below lm M.c3 | exact pw_cell_below lm M.c4 | exact pw_cell_below lm M.c5 | exact pw_cell_below lm M.c6 | exact pw_cell_below lm M.c7 | exact pw_cell_below lm M.c8 | exact pw_cell_below lm M.c9 | exact pw_cell_below ln MN.c0 | exact pw_cell_below ln MN.c1 | exact pw_cell_below ln MN.c2 | exact pw_cell_below ln MN.c3 | exact pw_cell_below ln MN.c4 | exact pw_cell_below ln MN.c5 | exact pw_cell_below ln MN.c6 | exact pw_cell_below ln MN.c7 | exact pw_cell_below ln MN.c8 | exact pw_cell_below ln MN.c9)) ?_
                  refine E.GQ.run rfl rfl rfl (E.Runs.move rfl rfl) ?_
                  refine E.GQ.run rfl rfl rfl (E.Runs.move rfl rfl) ?_
                  refine E.GQ.run rfl rfl rfl (E.Runs.indexAddrA rfl rfl rfl hu29 (by assumption) (by assumption) (by assumption) (by first | rfl | assumption) rfl) ?_
                  refine E.GQ.run rfl rfl rfl (E.Runs.fieldAddr rfl rfl hu34 rfl (by assumption) rfl) ?_
                  refine E.GQ.run rfl rfl rfl (E.Runs.fieldAddr rfl rfl hu23 rfl (by assumption) rfl) ?_
                  refine E.GQ.run rfl rfl rfl (E.Runs.load rfl rfl hu3 (by first | assumption | exact E.blkc (by assumption) rfl | exact pw_cell_below L (by assumption) | exact pw_cell_below lm (by assumption) | exact pw_cell_below ln (by assumption) | exact pw_cell_below lq (by assumption) | exact pw_cell_below lm M.c0 | exact pw_cell_below lm M.c1 | exact pw_cell_below lm M.c2 | exact pw_cell_below lm M.c3 | exact pw_cell_below lm M.c4 | exact pw_cell_below lm M.c5 | exact pw_cell_below lm M.c6 | exact pw_cell_below lm M.c7 | exact pw_cell_below lm M.c8 | exact pw_cell_below lm M.c9 | exact pw_cell_below ln MN.c0 | exact pw_cell_below ln MN.c1 | exact pw_cell_below ln MN.c2 | exact pw_cell_below ln MN.c3 | exact pw_cell_below ln MN.c4 | exact pw_cell_below ln MN.c5 | exact pw_cell_below ln MN.c6 | exact pw_cell_below ln MN.c7 | exact pw_cell_below ln MN.c8 | exact pw_cell_below ln MN.c9)) ?_
                  refine E.GQ.run rfl rfl rfl (E.Runs.gtr rfl rfl rfl (decide_eq_false (by have := P1.r; omega))) ?_
                  refine E.GQ.run rfl rfl rfl (E.Runs.pick_f rfl rfl rfl) ?_
                  refine E.GQ.run rfl rfl rfl (E.Runs.move rfl rfl) ?_
                  refine E.GQ.run rfl rfl rfl (E.Runs.move rfl rfl) ?_
                  refine E.GQ.run rfl rfl rfl (E.Runs.move rfl rfl) ?_
                  refine E.GQ.run rfl rfl rfl (E.Runs.indexAddrA rfl rfl rfl hu29 (by assumption) (by assumption) (by assumption) (by first | rfl | assumption) rfl) ?_
                  refine E.GQ.run rfl rfl rfl (E.Runs.fieldAddr rfl rfl hu34 rfl (by assumption) rfl) ?_
                  refine E.GQ.run rfl rfl rfl (E.Runs.fieldAddr rfl rfl hu23 rfl (by assumption) rfl) ?_
                  refine E.GQ.run rfl rfl rfl (E.Runs.load rfl rfl hu3 (by first | assumption | exact E.blkc (by assumption) rfl | exact pw_cell_below L (by assumption) | exact pw_cell_below lm (by assumption) | exact pw_cell_below ln (by assumption) | exact pw_cell_below lq (by assumption) | exact pw_cell_below lm M.c0 | exact pw_cell_below lm M.c1 | exact pw_cell_below lm M.c2 | exact pw_cell_below lm M.c3 | exact pw_cell_below lm M.c4 | exact pw_cell_below lm M.c5 | exact pw_cell_below lm M.c6 | exact pw_cell_below lm M.c7 | exact pw_cell_below lm M.c8 | exact pw_cell_below lm M.c9 | exact pw_cell_below ln MN.c0 | exact pw_cell_below ln MN.c1 | exact pw_cell_below ln MN.c2 | exact pw_cell_below ln MN.c3 | exact pw_cell_below ln MN.c4 | exact pw_cell_below ln MN.c5 | exact pw_cell_below ln MN.c6 | exact pw_cell_below ln MN.c7 | exact pw_cell_below ln MN.c8 | exact pw_cell_below ln MN.c9)) ?_
                  refine E.GQ.run rfl rfl rfl (E.Runs.move rfl rfl) ?_
                  refine E.GQ.run rfl rfl rfl (E.Runs.move rfl rfl) ?_
                  refine E.GQ.run rfl rfl rfl (E.Runs.indexAddrA rfl rfl rfl hu29 (by assumption) (by assumption) (by assumption) (by first | rfl | assumption) rfl) ?_
                  refine E.GQ.run rfl rfl rfl (E.Runs.fieldAddr rfl rfl hu34 rfl (by assumption) rfl) ?_
                  refine E.GQ.run rfl rfl rfl (E.Runs.fieldAddr rfl rfl hu23 rfl (by assumption) rfl) ?_
                  refine E.GQ.run rfl rfl rfl (E.Runs.load rfl rfl hu3 (by first | assumption | exact E.blkc (by assumption) rfl | exact pw_cell_below L (by assumption) | exact pw_cell_below lm (by assumption) | exact pw_cell_below ln (by assumption) | exact pw_cell_below lq (by assumption) | exact pw_cell_below lm M.c0 | exact pw_cell_below lm M.c1 | exact pw_cell_below lm M.c2 | exact pw_cell_below lm M.c3 | exact pw_cell_below lm M.c4 | exact pw_cell_below lm M.c5 | exact pw_cell_below lm M.c6 | exact pw_cell_below lm M.c7 | exact pw_cell_below lm M.c8 | exact pw_cell_below lm M.c9 | exact pw_cell_below ln MN.c0 | exact pw_cell_below ln MN.c1 | exact pw_cell_below ln MN.c2 | exact pw_cell_below ln MN.c3 | exact pw_cell_below ln MN.c4 | exact pw_cell_below ln MN.c5 | exact pw_cell_below ln MN.c6 | exact pw_cell_below ln MN.c7 | exact pw_cell_below ln MN.c8 | exact pw_cell_below ln MN.c9)) ?_
                  refine E.GQ.run rfl rfl rfl (E.Runs.gtr rfl rfl rfl (decide_eq_false (by have := P2.s; omega))) ?_
                  refine E.GQ.run rfl rfl rfl (E.Runs.pick_f rfl rfl rfl) ?_
                  refine E.GQ.run rfl rfl rfl (E.Runs.move rfl rfl) ?_
                  refine E.GQ.run rfl rfl rfl (E.Runs.move rfl rfl) ?_
                  refine E.GQ.run rfl rfl rfl (E.Runs.move rfl rfl) ?_
                  refine E.GQ.run rfl rfl rfl (E.Runs.indexAddrA rfl rfl rfl hu29 (by assumption) (by assumption) (by assumption) (by first | rfl | assumption) rfl) ?_
                  refine E.GQ.run rfl rfl rfl (E.Runs.fieldAddr rfl rfl hu34 rfl (by assumption) rfl) ?_
                  refine E.GQ.run rfl rfl rfl (E.Runs.fieldAddr rfl rfl hu23 rfl (by assumption) rfl) ?_
                  refine E.GQ.run rfl rfl rfl (E.Runs.load rfl rfl hu3 (by first | assumption | exact E.blkc (by assumption) rfl | exact pw_cell_below L (by assumption) | exact pw_cell_below lm (by assumption) | exact pw_cell_below ln (by assumption) | exact pw_cell_below lq (by assumption) | exact pw_cell_below lm M.c0 | exact pw_cell_below lm M.c1 | exact pw_cell_below lm M.c2 | exact pw_cell_below lm M.c3 | exact pw_cell_below lm M.c4 | exact pw_cell_below lm M.c5 | exact pw_cell_below lm M.c6 | exact pw_cell_below lm M.c7 | exact pw_cell_below lm M.c8 | exact pw_cell_below lm M.c9 | exact pw_cell_below ln MN.c0 | exact pw_cell_below ln MN.c1 | exact pw_cell_below ln MN.c2 | exact pw_cell_below ln MN.c3 | exact pw_cell_below ln MN.c4 | exact pw_cell_below ln MN.c5 | exact pw_cell_below ln MN.c6 | exact pw_cell_below ln MN.c7 | exact pw_cell_below ln MN.c8 | exact pw_cell_below ln MN.c9)) ?_
                  refine E.GQ.run rfl rfl rfl (E.Runs.move rfl rfl) ?_
                  refine E.GQ.run rfl rfl rfl (E.Runs.move rfl rfl) ?_
                  refine E.GQ.run rfl rfl rfl (E.Runs.indexAddrA rfl rfl rfl hu29 (by assumption) (by assumption) (by assumption) (by first | rfl | assumption) rfl) ?_
                  refine E.GQ.run rfl rfl rfl (E.Runs.fieldAddr rfl rfl hu34 rfl (by assumption) rfl) ?_
                  refine E.GQ.run rfl rfl rfl (E.Runs.fieldAddr rfl rfl hu23 rfl (by assumption) rfl) ?_
                  refine E.GQ.run rfl rfl rfl (E.Runs.load rfl rfl hu3 (by first | assumption | exact E.blkc (by assumption) rfl | exact pw_cell_below L (by assumption) | exact pw_cell_below lm (by assumption) | exact pw_cell_below ln (by assumption) | exact pw_cell_below lq (by assumption) | exact pw_cell_below lm M.c0 | exact pw_cell_below lm M.c1 | exact pw_cell_below lm M.c2 | exact pw_cell_below lm M.c3 | exact pw_cell_below lm M.c4 | exact pw_cell_below lm M.c5 | exact pw_cell_below lm M.c6 | exact pw_cell_below lm M.c7 | exact pw_cell_below lm M.c8 | exact pw_cell_below lm M.c9 | exact pw_cell_below ln MN.c0 | exact pw_cell_below ln MN.c1 | exact pw_cell_below ln MN.c2 | exact pw_cell_below ln MN.c3 | exact pw_cell_below ln MN.c4 | exact pw_cell_below ln MN.c5 | exact pw_cell_below ln MN.c6 | exact pw_cell_below ln MN.c7 | exact pw_cell_below ln MN.c8 | exact pw_cell_below ln MN.c9)) ?_
                  refine E.GQ.run rfl rfl rfl (E.Runs.gtr rfl rfl rfl (decide_eq_false (by have := P2.e; omega))) ?_
                  refine E.GQ.run rfl rfl rfl (E.Runs.pick_f rfl rfl rfl) ?_
                  refine E.GQ.run rfl rfl rfl (E.Runs.move rfl rfl) ?_
                  refine E.GQ.run rfl rfl rfl (E.Runs.move rfl rfl) ?_
                  refine E.GQ.run rfl rfl rfl (E.Runs.move rfl rfl) ?_
                  refine E.GQ.run rfl rfl rfl (E.Runs.indexAddrA rfl rfl rfl hu29 (by assumption) (by assumption) (by assumption) (by first | rfl | assumption) rfl) ?_
                  refine E.GQ.run rfl rfl rfl (E.Runs.fieldAddr rfl rfl hu34 rfl (by assumption) rfl) ?_
                  refine E.GQ.run rfl rfl rfl (E.Runs.fieldAddr rfl rfl hu23 rfl (by assumption) rfl) ?_
                  refine E.GQ.run rfl rfl rfl (E.Runs.load rfl rfl hu3 (by first | assumption | exact E.blkc (by assumption) rfl | exact pw_cell_below L (by assumption) | exact pw_cell_below lm (by assumption) | exact pw_cell_below ln (by assumption) | exact pw_cell_below lq (by assumption) | exact pw_cell_below lm M.c0 | exact pw_cell_below lm M.c1 | exact pw_cell_below lm M.c2 | exact pw_cell_below lm M.c3 | exact pw_cell_below lm M.c4 | exact pw_cell_below lm M.c5 | exact pw_cell_below lm M.c6 | exact pw_cell_below lm M.c7 | exact pw_cell_below lm M.c8 | exact pw_cell_below lm M.c9 | exact pw_cell_below ln MN.c0 | exact pw_cell_below ln MN.c1 | exact pw_cell_below ln MN.c2 | exact pw_cell_below ln MN.c3 | exact pw_cell_below ln MN.c4 | exact pw_cell_below ln MN.c5 | exact pw_cell_below ln MN.c6 | exact pw_cell_below ln MN.c7 | exact pw_cell_below ln MN.c8 | exact pw_cell_below ln MN.c9)) ?_
                  refine E.GQ.run rfl rfl rfl (E.Runs.move rfl rfl) ?_
                  refine E.GQ.run rfl rfl rfl (E.Runs.move rfl rfl) ?_
                  refine E.GQ.run rfl rfl rfl (E.Runs.indexAddrA rfl rfl rfl hu29 (by assumption) (by assumption) (by assumption) (by first | rfl | assumption) rfl) ?_
                  refine E.GQ.run rfl rfl rfl (E.Runs.fieldAddr rfl rfl hu34 rfl (by assumption) rfl) ?_
                  refine E.GQ.run rfl rfl rfl (E.Runs.fieldAddr rfl rfl hu23 rfl (by assumption) rfl) ?_
                  refine E.GQ.run rfl rfl rfl (E.Runs.load rfl rfl hu3 (by first | assumption | exact E.blkc (by assumption) rfl | exact pw_cell_below L (by assumption) | exact pw_cell_below lm (by assumption) | exact pw_cell_below ln (by assumption) | exact pw_cell_below lq (by assumption) | exact pw_cell_below lm M.c0 | exact pw_cell_below lm M.c1 | exact pw_cell_below lm M.c2 | exact pw_cell_below lm M.c3 | exact pw_cell_below lm M.c4 | exact pw_cell_below lm M.c5 | exact pw_cell_below lm M.c6 | exact pw_cell_below lm M.c7 | exact pw_cell_below lm M.c8 | exact pw_cell_below lm M.c9 | exact pw_cell_below ln MN.c0 | exact pw_cell_below ln MN.c1 | exact pw_cell_below ln MN.c2 | exact pw_cell_below ln MN.c3 | exact pw_cell_below ln MN.c4 | exact pw_cell_below ln MN.c5 | exact pw_cell_below ln MN.c6 | exact pw_cell_below ln MN.c7 | exact pw_cell_below ln MN.c8 | exact pw_cell_below ln MN.c9)) ?_
                  refine E.GQ.run rfl rfl rfl (E.Runs.gtr rfl rfl rfl (decide_eq_false (by have := P2.d; omega))) ?_
                  refine E.GQ.run rfl rfl rfl (E.Runs.pick_f rfl rfl rfl) ?_
                  refine E.GQ.run rfl rfl rfl (E.Runs.move rfl rfl) ?_
                  refine E.GQ.run rfl rfl rfl (E.Runs.move rfl rfl) ?_
                  refine E.GQ.run rfl rfl rfl (E.Runs.move rfl rfl) ?_
                  refine E.GQ.run rfl rfl rfl (E.Runs.indexAddrA rfl rfl rfl hu29 (by assumption) (by assumption) (by assumption) (by first | rfl | assumption) rfl) ?_
                  refine E.GQ.run rfl rfl rfl (E.Runs.fieldAddr rfl rfl hu34 rfl (by assumption) rfl) ?_
                  refine E.GQ.run rfl rfl rfl (E.Runs.fieldAddr rfl rfl hu23 rfl (by assumption) rfl) ?_
                  refine E.GQ.run rfl rfl rfl (E.Runs.load rfl rfl hu3 (by first | assumption | exact E.blkc (by assumption) rfl | exact pw_cell_below L (by assumption) | exact pw_cell_below lm (by assumption) | exact pw_cell_below ln (by assumption) | exact pw_cell_below lq (by assumption) | exact pw_cell_below lm M.c0 | exact pw_cell_below lm M.c1 | exact pw_cell_below lm M.c2 | exact pw_cell_below lm M.c3 | exact pw_cell_below lm M.c4 | exact pw_cell_below lm M.c5 | exact pw_cell_below lm M.c6 | exact pw_cell_below lm M.c7 | exact pw_cell_below lm M.c8 | exact pw_cell_below lm M.c9 | exact pw_cell_below ln MN.c0 | exact pw_cell_below ln MN.c1 | exact pw_cell_below ln MN.c2 | exact pw_cell_below ln MN.c3 | exact pw_cell_below ln MN.c4 | exact pw_cell_below ln MN.c5 | exact pw_cell_below ln MN.c6 | exact pw_cell_below ln MN.c7 | exact pw_cell_below ln MN.c8 | exact pw_cell_below ln MN.c9)) ?_
                  refine E.GQ.run rfl rfl rfl (E.Runs.move rfl rfl) ?_
                  refine E.GQ.run rfl rfl rfl (E.Runs.move rfl rfl) ?_
                  refine E.GQ.run rfl rfl rfl (E.Runs.indexAddrA rfl rfl rfl hu29 (by assumption) (by assumption) (by assumption) (by first | rfl | assumption) rfl) ?_
                  refine E.GQ.run rfl rfl rfl (E.Runs.fieldAddr rfl rfl hu34 rfl (by assumption) rfl) ?_
                  refine E.GQ.run rfl rfl rfl (E.Runs.fieldAddr rfl rfl hu23 rfl (by assumption) rfl) ?_
                  refine E.GQ.run rfl rfl rfl (E.Runs.load rfl rfl hu3 (by first | assumption | exact E.blkc (by assumption) rfl | exact pw_cell_below L (by assumption) | exact pw_cell_below lm (by assumption) | exact pw_cell_below ln (by assumption) | exact pw_cell_below lq (by assumption) | exact pw_cell_below lm M.c0 | exact pw_cell_below lm M.c1 | exact pw_cell_below lm M.c2 | exact pw_cell_below lm M.c3 | exact pw_cell_below lm M.c4 | exact pw_cell_below lm M.c5 | exact pw_cell_below lm M.c6 | exact pw_cell_below lm M.c7 | exact pw_cell_below lm M.c8 | exact pw_cell_below lm M.c9 | exact pw_cell_below ln MN.c0 | exact pw_cell_below ln MN.c1 | exact pw_cell_below ln MN.c2 | exact pw_cell_below ln MN.c3 | exact pw_cell_below ln MN.c4 | exact pw_cell_below ln MN.c5 | exact pw_cell_below ln MN.c6 | exact pw_cell_below ln MN.c7 | exact pw_cell_below ln MN.c8 | exact pw_cell_below ln MN.c9)) ?_
                  refine E.GQ.run rfl rfl rfl (E.Runs.gtr rfl rfl rfl (decide_eq_false (by have := P2.m; omega))) ?_
                  refine E.GQ.run rfl rfl rfl (E.Runs.pick_f rfl rfl rfl) ?_
                  refine E.GQ.doneB fun v20 lD => ?_
                  replace L := below_step L lD
                  replace lm := below_step lm lD
                  replace ln := below_step ln lD
                  replace lq := below_step lq lD
                  clear lD
                  refine E.QG.code ?_
                  refine E.CG.cond_f rfl ?_
                  refine E.CG.skip ?_
                  refine E.QG.block_normal ?_
                  refine E.QG.code ?_
                  refine E.CG.list ?_
                  refine E.GL.run rfl rfl rfl (E.Runs.move rfl rfl) ?_
                  refine E.GL.run rfl rfl rfl (E.Runs.add rfl rfl rfl (IntWalk.i64_in _ (by omega))) ?_
                  refine E.GL.run rfl rfl rfl (E.Runs.assign rfl rfl) ?_
                  refine E.GL.done ?_
                  exact E.QG.round (j + 1) (E.subc rfl (E.subc rfl (E.subc rfl (E.subc rfl E.subn)))) ⟨by omega, lq⟩ (by omega)
                · refine E.GL.done ?_
                  refine E.QG.code ?_
                  refine E.CG.cond_f rfl ?_
                  refine E.CG.exit ?_
                  refine E.QG.pass_exit ?_
                  refine E.QG.pass_exit ?_
                  refine E.QG.block_here ?_
                  refine E.QG.code ?_
                  refine E.CG.seq ?_
                  refine E.CG.list ?_
                  refine E.GL.st rfl rfl rfl (E.ST.call rfl ent14 E.evn ((works_calls _).mono ?_))
                  rintro e w292 ⟨rfl, l292⟩
                  refine ⟨_, rfl, ?_⟩
                  replace L := below_step L l292
                  replace lm := below_step lm l292
                  replace ln := below_step ln l292
                  refine E.GL.run rfl rfl rfl (E.Runs.assign rfl rfl) ?_
                  refine E.GL.done ?_
                  refine E.QG.code ?_
                  refine E.CG.ret ?_
                  exact E.QG.result rfl rfl ⟨rfl, L⟩
            · refine E.GL.run rfl rfl rfl (E.Runs.move rfl rfl) ?_
              refine E.GL.skip rfl rfl rfl ?_
              refine E.GL.skip rfl rfl rfl ?_
              refine E.GL.run rfl rfl rfl (E.Runs.pick_f rfl rfl rfl) ?_
              refine E.GL.run rfl rfl rfl (E.Runs.move rfl rfl) ?_
              refine E.GL.skip rfl rfl rfl ?_
              refine E.GL.skip rfl rfl rfl ?_
              refine E.GL.skip rfl rfl rfl ?_
              refine E.GL.run rfl rfl rfl (E.Runs.pick_f rfl rfl rfl) ?_
              refine E.GL.run rfl rfl rfl (E.Runs.pick_f rfl rfl rfl) ?_
              refine E.GL.done ?_
              refine E.QG.code ?_
              refine E.CG.cond_f rfl ?_
              refine E.CG.skip ?_
              refine E.QG.code ?_
              refine E.CG.seq ?_
              refine E.CG.seq ?_
              refine E.CG.list ?_
              refine E.GL.run rfl rfl rfl (E.Runs.assign rfl rfl) ?_
              refine E.GL.done ?_
              refine E.QG.code ?_
              refine E.CG.block ?_
              have s18_b3 := b3
              have s18_b5 := b5
              have s18_b7 := b7
              have s18_L := L
              have s18_lm := lm
              have s18_ln := ln
              refine E.CG.loop (fun (j : Nat) => [(1, .slice A1 l.length c1), (10, .slice Am l.length cm), (12, .slice An l.length cn), (20, .int .i64 j)]) (fun j w' => j ≤ l.length ∧ Below w145.heap.size w145 w') (fun j => l.length - j) 0 (E.subc rfl (E.subc rfl (E.subc rfl (E.subc rfl (E.subn))))) ⟨Nat.zero_le _, Below.refl _ _⟩ ?_
              rintro j w18 ⟨hj, lq⟩
              replace L := below_step L lq
              replace lm := below_step lm lq
              replace ln := below_step ln lq
              refine E.CG.seq ?_
              refine E.CG.seq ?_
              refine E.CG.list ?_
              refine E.GL.run rfl rfl rfl (E.Runs.move rfl rfl) ?_
              refine E.GL.run rfl rfl rfl (E.Runs.move rfl rfl) ?_
              refine E.GL.run rfl rfl rfl (E.Runs.len rfl rfl hu26) ?_
              refine E.GL.cmp rfl rfl rfl (fun _ h => (E.Runs.lss rfl rfl rfl h)) (fun h201 => ?_) (fun h201 => ?_)
              · have hlt : j < l.length := by omega
                obtain ⟨s, hs⟩ : ∃ s, l[j]? = some s := ⟨_, List.getElem?_eq_getElem hlt⟩
                have hs' : (l.map (easeS r))[j]? = some (easeS r s) := by rw [List.getElem?_map, hs]; rfl
                obtain ⟨t, u, TO⟩ := told h23.1 (valid_slots h23) hs
                obtain ⟨t', u', TX⟩ := told VX.1 (valid_slots VX) hs'
                have q1 : (earlyDay H l)[j]? = some t := by rw [earlyDay, allE_is h23.1 (valid_slots h23)]; exact TO.te
                have q2 : (lateDay H l)[j]? = some u := by rw [lateDay, allL_is h23.1 (valid_slots h23)]; exact TO.tl
                have q3 : (earlyDay (easeH H c k d) (l.map (easeS r)))[j]? = some t' := by rw [earlyDay, allE_is VX.1 (valid_slots VX)]; exact TX.te
                have q4 : (lateDay (easeH H c k d) (l.map (easeS r)))[j]? = some u' := by rw [lateDay, allL_is VX.1 (valid_slots VX)]; exact TX.tl
                obtain ⟨P1, P2⟩ := ease_day h23 e0.1 e0.2.1 e0.2.2.1 e0.2.2.2 q1 q2 q3 q4
                obtain ⟨am, eM, M⟩ := mom_at km TO hlt
                obtain ⟨an, eN, MN⟩ := mom_at kn TX (by simpa using hlt)
                refine E.GL.done ?_
                refine E.QG.code ?_
                refine E.CG.cond_t rfl ?_
                refine E.CG.skip ?_
                refine E.QG.code ?_
                refine E.CG.seq ?_
                refine E.CG.block ?_
                refine E.CG.seq ?_
                refine E.CG.quietF (by kernel_rfl) rfl (by kernel_rfl) (by kernel_rfl) ?_
                refine E.GQ.run rfl rfl rfl (E.Runs.move rfl rfl) ?_
                refine E.GQ.run rfl rfl rfl (E.Runs.move rfl rfl) ?_
                refine E.GQ.run rfl rfl rfl (E.Runs.indexAddrA rfl rfl rfl hu29 (by assumption) (by assumption) (by assumption) (by first | rfl | assumption) rfl) ?_
                refine E.GQ.run rfl rfl rfl (E.Runs.fieldAddr rfl rfl hu34 rfl (by assumption) rfl) ?_
                refine E.GQ.run rfl rfl rfl (E.Runs.fieldAddr rfl rfl hu23 rfl (by assumption) rfl) ?_
                refine E.GQ.run rfl rfl rfl (E.Runs.load rfl rfl hu3 (by first | assumption | exact E.blkc (by assumption) rfl | exact pw_cell_below L (by assumption) | exact pw_cell_below lm (by assumption) | exact pw_cell_below ln (by assumption) | exact pw_cell_below lq (by assumption) | exact pw_cell_below lm M.c0 | exact pw_cell_below lm M.c1 | exact pw_cell_below lm M.c2 | exact pw_cell_below lm M.c3 | exact pw_cell_below lm M.c4 | exact pw_cell_below lm M.c5 | exact pw_cell_below lm M.c6 | exact pw_cell_below lm M.c7 | exact pw_cell_below lm M.c8 | exact pw_cell_below lm M.c9 | exact pw_cell_below ln MN.c0 | exact pw_cell_below ln MN.c1 | exact pw_cell_below ln MN.c2 | exact pw_cell_below ln MN.c3 | exact pw_cell_below ln MN.c4 | exact pw_cell_below ln MN.c5 | exact pw_cell_below ln MN.c6 | exact pw_cell_below ln MN.c7 | exact pw_cell_below ln MN.c8 | exact pw_cell_below ln MN.c9)) ?_
                refine E.GQ.run rfl rfl rfl (E.Runs.move rfl rfl) ?_
                refine E.GQ.run rfl rfl rfl (E.Runs.move rfl rfl) ?_
                refine E.GQ.run rfl rfl rfl (E.Runs.indexAddrA rfl rfl rfl hu29 (by assumption) (by assumption) (by assumption) (by first | rfl | assumption) rfl) ?_
                refine E.GQ.run rfl rfl rfl (E.Runs.fieldAddr rfl rfl hu34 rfl (by assumption) rfl) ?_
                refine E.GQ.run rfl rfl rfl (E.Runs.fieldAddr rfl rfl hu23 rfl (by assumption) rfl) ?_
                refine E.GQ.run rfl rfl rfl (E.Runs.load rfl rfl hu3 (by first | assumption | exact E.blkc (by assumption) rfl | exact pw_cell_below L (by assumption) | exact pw_cell_below lm (by assumption) | exact pw_cell_below ln (by assumption) | exact pw_cell_below lq (by assumption) | exact pw_cell_below lm M.c0 | exact pw_cell_below lm M.c1 | exact pw_cell_below lm M.c2 | exact pw_cell_below lm M.c3 | exact pw_cell_below lm M.c4 | exact pw_cell_below lm M.c5 | exact pw_cell_below lm M.c6 | exact pw_cell_below lm M.c7 | exact pw_cell_below lm M.c8 | exact pw_cell_below lm M.c9 | exact pw_cell_below ln MN.c0 | exact pw_cell_below ln MN.c1 | exact pw_cell_below ln MN.c2 | exact pw_cell_below ln MN.c3 | exact pw_cell_below ln MN.c4 | exact pw_cell_below ln MN.c5 | exact pw_cell_below ln MN.c6 | exact pw_cell_below ln MN.c7 | exact pw_cell_below ln MN.c8 | exact pw_cell_below ln MN.c9)) ?_
                refine E.GQ.run rfl rfl rfl (E.Runs.gtr rfl rfl rfl (decide_eq_false (by have := P2.r; omega))) ?_
                refine E.GQ.run rfl rfl rfl (E.Runs.move rfl rfl) ?_
                refine E.GQ.run rfl rfl rfl (E.Runs.move rfl rfl) ?_
                refine E.GQ.run rfl rfl rfl (E.Runs.move rfl rfl) ?_
                refine E.GQ.run rfl rfl rfl (E.Runs.indexAddrA rfl rfl rfl hu29 (by assumption) (by assumption) (by assumption) (by first | rfl | assumption) rfl) ?_
                refine E.GQ.run rfl rfl rfl (E.Runs.fieldAddr rfl rfl hu34 rfl (by assumption) rfl) ?_
                refine E.GQ.run rfl rfl rfl (E.Runs.fieldAddr rfl rfl hu23 rfl (by assumption) rfl) ?_
                refine E.GQ.run rfl rfl rfl (E.Runs.load rfl rfl hu3 (by first | assumption | exact E.blkc (by assumption) rfl | exact pw_cell_below L (by assumption) | exact pw_cell_below lm (by assumption) | exact pw_cell_below ln (by assumption) | exact pw_cell_below lq (by assumption) | exact pw_cell_below lm M.c0 | exact pw_cell_below lm M.c1 | exact pw_cell_below lm M.c2 | exact pw_cell_below lm M.c3 | exact pw_cell_below lm M.c4 | exact pw_cell_below lm M.c5 | exact pw_cell_below lm M.c6 | exact pw_cell_below lm M.c7 | exact pw_cell_below lm M.c8 | exact pw_cell_below lm M.c9 | exact pw_cell_below ln MN.c0 | exact pw_cell_below ln MN.c1 | exact pw_cell_below ln MN.c2 | exact pw_cell_below ln MN.c3 | exact pw_cell_below ln MN.c4 | exact pw_cell_below ln MN.c5 | exact pw_cell_below ln MN.c6 | exact pw_cell_below ln MN.c7 | exact pw_cell_below ln MN.c8 | exact pw_cell_below ln MN.c9)) ?_
                refine E.GQ.run rfl rfl rfl (E.Runs.move rfl rfl) ?_
                refine E.GQ.run rfl rfl rfl (E.Runs.move rfl rfl) ?_
                refine E.GQ.run rfl rfl rfl (E.Runs.indexAddrA rfl rfl rfl hu29 (by assumption) (by assumption) (by assumption) (by first | rfl | assumption) rfl) ?_
                refine E.GQ.run rfl rfl rfl (E.Runs.fieldAddr rfl rfl hu34 rfl (by assumption) rfl) ?_
                refine E.GQ.run rfl rfl rfl (E.Runs.fieldAddr rfl rfl hu23 rfl (by assumption) rfl) ?_
                refine E.GQ.run rfl rfl rfl (E.Runs.load rfl rfl hu3 (by first | assumption | exact E.blkc (by assumption) rfl | exact pw_cell_below L (by assumption) | exact pw_cell_below lm (by assumption) | exact pw_cell_below ln (by assumption) | exact pw_cell_below lq (by assumption) | exact pw_cell_below lm M.c0 | exact pw_cell_below lm M.c1 | exact pw_cell_below lm M.c2 | exact pw_cell_below lm M.c3 | exact pw_cell_below lm M.c4 | exact pw_cell_below lm M.c5 | exact pw_cell_below lm M.c6 | exact pw_cell_below lm M.c7 | exact pw_cell_below lm M.c8 | exact pw_cell_below lm M.c9 | exact pw_cell_below ln MN.c0 | exact pw_cell_below ln MN.c1 | exact pw_cell_below ln MN.c2 | exact pw_cell_below ln MN.c3 | exact pw_cell_below ln MN.c4 | exact pw_cell_below ln MN.c5 | exact pw_cell_below ln MN.c6 | exact pw_cell_below ln MN.c7 | exact pw_cell_below ln MN.c8 | exact pw_cell_below ln MN.c9)) ?_
                refine E.GQ.run rfl rfl rfl (E.Runs.gtr rfl rfl rfl (decide_eq_false (by have := P1.r; omega))) ?_
                refine E.GQ.run rfl rfl rfl (E.Runs.pick_f rfl rfl rfl) ?_
                refine E.GQ.run rfl rfl rfl (E.Runs.move rfl rfl) ?_
                refine E.GQ.run rfl rfl rfl (E.Runs.move rfl rfl) ?_
                refine E.GQ.run rfl rfl rfl (E.Runs.move rfl rfl) ?_
                refine E.GQ.run rfl rfl rfl (E.Runs.indexAddrA rfl rfl rfl hu29 (by assumption) (by assumption) (by assumption) (by first | rfl | assumption) rfl) ?_
                refine E.GQ.run rfl rfl rfl (E.Runs.fieldAddr rfl rfl hu34 rfl (by assumption) rfl) ?_
                refine E.GQ.run rfl rfl rfl (E.Runs.fieldAddr rfl rfl hu23 rfl (by assumption) rfl) ?_
                refine E.GQ.run rfl rfl rfl (E.Runs.load rfl rfl hu3 (by first | assumption | exact E.blkc (by assumption) rfl | exact pw_cell_below L (by assumption) | exact pw_cell_below lm (by assumption) | exact pw_cell_below ln (by assumption) | exact pw_cell_below lq (by assumption) | exact pw_cell_below lm M.c0 | exact pw_cell_below lm M.c1 | exact pw_cell_below lm M.c2 | exact pw_cell_below lm M.c3 | exact pw_cell_below lm M.c4 | exact pw_cell_below lm M.c5 | exact pw_cell_below lm M.c6 | exact pw_cell_below lm M.c7 | exact pw_cell_below lm M.c8 | exact pw_cell_below lm M.c9 | exact pw_cell_below ln MN.c0 | exact pw_cell_below ln MN.c1 | exact pw_cell_below ln MN.c2 | exact pw_cell_below ln MN.c3 | exact pw_cell_below ln MN.c4 | exact pw_cell_below ln MN.c5 | exact pw_cell_below ln MN.c6 | exact pw_cell_below ln MN.c7 | exact pw_cell_below ln MN.c8 | exact pw_cell_below ln MN.c9)) ?_
                refine E.GQ.run rfl rfl rfl (E.Runs.move rfl rfl) ?_
                refine E.GQ.run rfl rfl rfl (E.Runs.move rfl rfl) ?_
                refine E.GQ.run rfl rfl rfl (E.Runs.indexAddrA rfl rfl rfl hu29 (by assumption) (by assumption) (by assumption) (by first | rfl | assumption) rfl) ?_
                refine E.GQ.run rfl rfl rfl (E.Runs.fieldAddr rfl rfl hu34 rfl (by assumption) rfl) ?_
                refine E.GQ.run rfl rfl rfl (E.Runs.fieldAddr rfl rfl hu23 rfl (by assumption) rfl) ?_
                refine E.GQ.run rfl rfl rfl (E.Runs.load rfl rfl hu3 (by first | assumption | exact E.blkc (by assumption) rfl | exact pw_cell_below L (by assumption) | exact pw_cell_below lm (by assumption) | exact pw_cell_below ln (by assumption) | exact pw_cell_below lq (by assumption) | exact pw_cell_below lm M.c0 | exact pw_cell_below lm M.c1 | exact pw_cell_below lm M.c2 | exact pw_cell_below lm M.c3 | exact pw_cell_below lm M.c4 | exact pw_cell_below lm M.c5 | exact pw_cell_below lm M.c6 | exact pw_cell_below lm M.c7 | exact pw_cell_below lm M.c8 | exact pw_cell_below lm M.c9 | exact pw_cell_below ln MN.c0 | exact pw_cell_below ln MN.c1 | exact pw_cell_below ln MN.c2 | exact pw_cell_below ln MN.c3 | exact pw_cell_below ln MN.c4 | exact pw_cell_below ln MN.c5 | exact pw_cell_below ln MN.c6 | exact pw_cell_below ln MN.c7 | exact pw_cell_below ln MN.c8 | exact pw_cell_below ln MN.c9)) ?_
                refine E.GQ.run rfl rfl rfl (E.Runs.gtr rfl rfl rfl (decide_eq_false (by have := P2.s; omega))) ?_
                refine E.GQ.run rfl rfl rfl (E.Runs.pick_f rfl rfl rfl) ?_
                refine E.GQ.run rfl rfl rfl (E.Runs.move rfl rfl) ?_
                refine E.GQ.run rfl rfl rfl (E.Runs.move rfl rfl) ?_
                refine E.GQ.run rfl rfl rfl (E.Runs.move rfl rfl) ?_
                refine E.GQ.run rfl rfl rfl (E.Runs.indexAddrA rfl rfl rfl hu29 (by assumption) (by assumption) (by assumption) (by first | rfl | assumption) rfl) ?_
                refine E.GQ.run rfl rfl rfl (E.Runs.fieldAddr rfl rfl hu34 rfl (by assumption) rfl) ?_
                refine E.GQ.run rfl rfl rfl (E.Runs.fieldAddr rfl rfl hu23 rfl (by assumption) rfl) ?_
                refine E.GQ.run rfl rfl rfl (E.Runs.load rfl rfl hu3 (by first | assumption | exact E.blkc (by assumption) rfl | exact pw_cell_below L (by assumption) | exact pw_cell_below lm (by assumption) | exact pw_cell_below ln (by assumption) | exact pw_cell_below lq (by assumption) | exact pw_cell_below lm M.c0 | exact pw_cell_below lm M.c1 | exact pw_cell_below lm M.c2 | exact pw_cell_below lm M.c3 | exact pw_cell_below lm M.c4 | exact pw_cell_below lm M.c5 | exact pw_cell_below lm M.c6 | exact pw_cell_below lm M.c7 | exact pw_cell_below lm M.c8 | exact pw_cell_below lm M.c9 | exact pw_cell_below ln MN.c0 | exact pw_cell_below ln MN.c1 | exact pw_cell_below ln MN.c2 | exact pw_cell_below ln MN.c3 | exact pw_cell_below ln MN.c4 | exact pw_cell_below ln MN.c5 | exact pw_cell_below ln MN.c6 | exact pw_cell_below ln MN.c7 | exact pw_cell_below ln MN.c8 | exact pw_cell_below ln MN.c9)) ?_
                refine E.GQ.run rfl rfl rfl (E.Runs.move rfl rfl) ?_
                refine E.GQ.run rfl rfl rfl (E.Runs.move rfl rfl) ?_
                refine E.GQ.run rfl rfl rfl (E.Runs.indexAddrA rfl rfl rfl hu29 (by assumption) (by assumption) (by assumption) (by first | rfl | assumption) rfl) ?_
                refine E.GQ.run rfl rfl rfl (E.Runs.fieldAddr rfl rfl hu34 rfl (by assumption) rfl) ?_
                refine E.GQ.run rfl rfl rfl (E.Runs.fieldAddr rfl rfl hu23 rfl (by assumption) rfl) ?_
                refine E.GQ.run rfl rfl rfl (E.Runs.load rfl rfl hu3 (by first | assumption | exact E.blkc (by assumption) rfl | exact pw_cell_below L (by assumption) | exact pw_cell_below lm (by assumption) | exact pw_cell_below ln (by assumption) | exact pw_cell_below lq (by assumption) | exact pw_cell_below lm M.c0 | exact pw_cell_below lm M.c1 | exact pw_cell_below lm M.c2 | exact pw_cell_below lm M.c3 | exact pw_cell_below lm M.c4 | exact pw_cell_below lm M.c5 | exact pw_cell_below lm M.c6 | exact pw_cell_below lm M.c7 | exact pw_cell_below lm M.c8 | exact pw_cell_below lm M.c9 | exact pw_cell_below ln MN.c0 | exact pw_cell_below ln MN.c1 | exact pw_cell_below ln MN.c2 | exact pw_cell_below ln MN.c3 | exact pw_cell_below ln MN.c4 | exact pw_cell_below ln MN.c5 | exact pw_cell_below ln MN.c6 | exact pw_cell_below ln MN.c7 | exact pw_cell_below ln MN.c8 | exact pw_cell_below ln MN.c9)) ?_
                refine E.GQ.run rfl rfl rfl (E.Runs.gtr rfl rfl rfl (decide_eq_false (by have := P2.e; omega))) ?_
                refine E.GQ.run rfl rfl rfl (E.Runs.pick_f rfl rfl rfl) ?_
                refine E.GQ.run rfl rfl rfl (E.Runs.move rfl rfl) ?_
                refine E.GQ.run rfl rfl rfl (E.Runs.move rfl rfl) ?_
                refine E.GQ.run rfl rfl rfl (E.Runs.move rfl rfl) ?_
                refine E.GQ.run rfl rfl rfl (E.Runs.indexAddrA rfl rfl rfl hu29 (by assumption) (by assumption) (by assumption) (by first | rfl | assumption) rfl) ?_
                refine E.GQ.run rfl rfl rfl (E.Runs.fieldAddr rfl rfl hu34 rfl (by assumption) rfl) ?_
                refine E.GQ.run rfl rfl rfl (E.Runs.fieldAddr rfl rfl hu23 rfl (by assumption) rfl) ?_
                refine E.GQ.run rfl rfl rfl (E.Runs.load rfl rfl hu3 (by first | assumption | exact E.blkc (by assumption) rfl | exact pw_cell_below L (by assumption) | exact pw_cell_below lm (by assumption) | exact pw_cell_below ln (by assumption) | exact pw_cell_below lq (by assumption) | exact pw_cell_below lm M.c0 | exact pw_cell_below lm M.c1 | exact pw_cell_below lm M.c2 | exact pw_cell_below lm M.c3 | exact pw_cell_below lm M.c4 | exact pw_cell_below lm M.c5 | exact pw_cell_below lm M.c6 | exact pw_cell_below lm M.c7 | exact pw_cell_below lm M.c8 | exact pw_cell_below lm M.c9 | exact pw_cell_below ln MN.c0 | exact pw_cell_below ln MN.c1 | exact pw_cell_below ln MN.c2 | exact pw_cell_below ln MN.c3 | exact pw_cell_below ln MN.c4 | exact pw_cell_below ln MN.c5 | exact pw_cell_below ln MN.c6 | exact pw_cell_below ln MN.c7 | exact pw_cell_below ln MN.c8 | exact pw_cell_below ln MN.c9)) ?_
                refine E.GQ.run rfl rfl rfl (E.Runs.move rfl rfl) ?_
                refine E.GQ.run rfl rfl rfl (E.Runs.move rfl rfl) ?_
                refine E.GQ.run rfl rfl rfl (E.Runs.indexAddrA rfl rfl rfl hu29 (by assumption) (by assumption) (by assumption) (by first | rfl | assumption) rfl) ?_
                refine E.GQ.run rfl rfl rfl (E.Runs.fieldAddr rfl rfl hu34 rfl (by assumption) rfl) ?_
                refine E.GQ.run rfl rfl rfl (E.Runs.fieldAddr rfl rfl hu23 rfl (by assumption) rfl) ?_
                refine E.GQ.run rfl rfl rfl (E.Runs.load rfl rfl hu3 (by first | assumption | exact E.blkc (by assumption) rfl | exact pw_cell_below L (by assumption) | exact pw_cell_below lm (by assumption) | exact pw_cell_below ln (by assumption) | exact pw_cell_below lq (by assumption) | exact pw_cell_below lm M.c0 | exact pw_cell_below lm M.c1 | exact pw_cell_below lm M.c2 | exact pw_cell_below lm M.c3 | exact pw_cell_below lm M.c4 | exact pw_cell_below lm M.c5 | exact pw_cell_below lm M.c6 | exact pw_cell_below lm M.c7 | exact pw_cell_below lm M.c8 | exact pw_cell_below lm M.c9 | exact pw_cell_below ln MN.c0 | exact pw_cell_below ln MN.c1 | exact pw_cell_below ln MN.c2 | exact pw_cell_below ln MN.c3 | exact pw_cell_below ln MN.c4 | exact pw_cell_below ln MN.c5 | exact pw_cell_below ln MN.c6 | exact pw_cell_below ln MN.c7 | exact pw_cell_below ln MN.c8 | exact pw_cell_below ln MN.c9)) ?_
                refine E.GQ.run rfl rfl rfl (E.Runs.gtr rfl rfl rfl (decide_eq_false (by have := P2.d; omega))) ?_
                refine E.GQ.run rfl rfl rfl (E.Runs.pick_f rfl rfl rfl) ?_
                refine E.GQ.run rfl rfl rfl (E.Runs.move rfl rfl) ?_
                refine E.GQ.run rfl rfl rfl (E.Runs.move rfl rfl) ?_
                refine E.GQ.run rfl rfl rfl (E.Runs.move rfl rfl) ?_
                refine E.GQ.run rfl rfl rfl (E.Runs.indexAddrA rfl rfl rfl hu29 (by assumption) (by assumption) (by assumption) (by first | rfl | assumption) rfl) ?_
                refine E.GQ.run rfl rfl rfl (E.Runs.fieldAddr rfl rfl hu34 rfl (by assumption) rfl) ?_
                refine E.GQ.run rfl rfl rfl (E.Runs.fieldAddr rfl rfl hu23 rfl (by assumption) rfl) ?_
                refine E.GQ.run rfl rfl rfl (E.Runs.load rfl rfl hu3 (by first | assumption | exact E.blkc (by assumption) rfl | exact pw_cell_below L (by assumption) | exact pw_cell_below lm (by assumption) | exact pw_cell_below ln (by assumption) | exact pw_cell_below lq (by assumption) | exact pw_cell_below lm M.c0 | exact pw_cell_below lm M.c1 | exact pw_cell_below lm M.c2 | exact pw_cell_below lm M.c3 | exact pw_cell_below lm M.c4 | exact pw_cell_below lm M.c5 | exact pw_cell_below lm M.c6 | exact pw_cell_below lm M.c7 | exact pw_cell_below lm M.c8 | exact pw_cell_below lm M.c9 | exact pw_cell_below ln MN.c0 | exact pw_cell_below ln MN.c1 | exact pw_cell_below ln MN.c2 | exact pw_cell_below ln MN.c3 | exact pw_cell_below ln MN.c4 | exact pw_cell_below ln MN.c5 | exact pw_cell_below ln MN.c6 | exact pw_cell_below ln MN.c7 | exact pw_cell_below ln MN.c8 | exact pw_cell_below ln MN.c9)) ?_
                refine E.GQ.run rfl rfl rfl (E.Runs.move rfl rfl) ?_
                refine E.GQ.run rfl rfl rfl (E.Runs.move rfl rfl) ?_
                refine E.GQ.run rfl rfl rfl (E.Runs.indexAddrA rfl rfl rfl hu29 (by assumption) (by assumption) (by assumption) (by first | rfl | assumption) rfl) ?_
                refine E.GQ.run rfl rfl rfl (E.Runs.fieldAddr rfl rfl hu34 rfl (by assumption) rfl) ?_
                refine E.GQ.run rfl rfl rfl (E.Runs.fieldAddr rfl rfl hu23 rfl (by assumption) rfl) ?_
                refine E.GQ.run rfl rfl rfl (E.Runs.load rfl rfl hu3 (by first | assumption | exact E.blkc (by assumption) rfl | exact pw_cell_below L (by assumption) | exact pw_cell_below lm (by assumption) | exact pw_cell_below ln (by assumption) | exact pw_cell_below lq (by assumption) | exact pw_cell_below lm M.c0 | exact pw_cell_below lm M.c1 | exact pw_cell_below lm M.c2 | exact pw_cell_below lm M.c3 | exact pw_cell_below lm M.c4 | exact pw_cell_below lm M.c5 | exact pw_cell_below lm M.c6 | exact pw_cell_below lm M.c7 | exact pw_cell_below lm M.c8 | exact pw_cell_below lm M.c9 | exact pw_cell_below ln MN.c0 | exact pw_cell_below ln MN.c1 | exact pw_cell_below ln MN.c2 | exact pw_cell_below ln MN.c3 | exact pw_cell_below ln MN.c4 | exact pw_cell_below ln MN.c5 | exact pw_cell_below ln MN.c6 | exact pw_cell_below ln MN.c7 | exact pw_cell_below ln MN.c8 | exact pw_cell_below ln MN.c9)) ?_
                refine E.GQ.run rfl rfl rfl (E.Runs.gtr rfl rfl rfl (decide_eq_false (by have := P2.m; omega))) ?_
                refine E.GQ.run rfl rfl rfl (E.Runs.pick_f rfl rfl rfl) ?_
                refine E.GQ.doneB fun v20 lD => ?_
                replace L := below_step L lD
                replace lm := below_step lm lD
                replace ln := below_step ln lD
                replace lq := below_step lq lD
                clear lD
                refine E.QG.code ?_
                refine E.CG.cond_f rfl ?_
                refine E.CG.skip ?_
                refine E.QG.block_normal ?_
                refine E.QG.code ?_
                refine E.CG.list ?_
                refine E.GL.run rfl rfl rfl (E.Runs.move rfl rfl) ?_
                refine E.GL.run rfl rfl rfl (E.Runs.add rfl rfl rfl (IntWalk.i64_in _ (by omega))) ?_
                refine E.GL.run rfl rfl rfl (E.Runs.assign rfl rfl) ?_
                refine E.GL.done ?_
                exact E.QG.round (j + 1) (E.subc rfl (E.subc rfl (E.subc rfl (E.subc rfl E.subn)))) ⟨by omega, lq⟩ (by omega)
              · refine E.GL.done ?_
                refine E.QG.code ?_
                refine E.CG.cond_f rfl ?_
                refine E.CG.exit ?_
                refine E.QG.pass_exit ?_
                refine E.QG.pass_exit ?_
                refine E.QG.block_here ?_
                refine E.QG.code ?_
                refine E.CG.seq ?_
                refine E.CG.list ?_
                refine E.GL.st rfl rfl rfl (E.ST.call rfl ent14 E.evn ((works_calls _).mono ?_))
                rintro e w292 ⟨rfl, l292⟩
                refine ⟨_, rfl, ?_⟩
                replace L := below_step L l292
                replace lm := below_step lm l292
                replace ln := below_step ln l292
                refine E.GL.run rfl rfl rfl (E.Runs.assign rfl rfl) ?_
                refine E.GL.done ?_
                refine E.QG.code ?_
                refine E.CG.ret ?_
                exact E.QG.result rfl rfl ⟨rfl, L⟩
  · refine E.GL.st rfl rfl rfl (E.ST.call rfl ent13 (E.evc rfl (E.evc rfl E.evn)) ((valid_row H l A1 c1 _ false (iff_of_false Bool.false_ne_true h23) (Kd.C_below hr L) hc).mono ?_))
    rintro e w23 ⟨rfl, l23⟩
    refine ⟨_, rfl, ?_⟩
    replace b3 := blk_below b3 l23
    replace b5 := blk_below b5 l23
    replace L := below_step L l23
    refine E.GL.run rfl rfl rfl (E.Runs.not rfl rfl) ?_
    refine E.GL.run rfl rfl rfl (E.Runs.move rfl rfl) ?_
    refine E.GL.skip rfl rfl rfl ?_
    refine E.GL.skip rfl rfl rfl ?_
    refine E.GL.skip rfl rfl rfl ?_
    refine E.GL.skip rfl rfl rfl ?_
    refine E.GL.skip rfl rfl rfl ?_
    refine E.GL.skip rfl rfl rfl ?_
    refine E.GL.skip rfl rfl rfl ?_
    refine E.GL.skip rfl rfl rfl ?_
    refine E.GL.skip rfl rfl rfl ?_
    refine E.GL.skip rfl rfl rfl ?_
    refine E.GL.run rfl rfl rfl (E.Runs.pick_t rfl rfl rfl) ?_
    refine E.GL.run rfl rfl rfl (E.Runs.move rfl rfl) ?_
    refine E.GL.skip rfl rfl rfl ?_
    refine E.GL.skip rfl rfl rfl ?_
    refine E.GL.skip rfl rfl rfl ?_
    refine E.GL.skip rfl rfl rfl ?_
    refine E.GL.skip rfl rfl rfl ?_
    refine E.GL.skip rfl rfl rfl ?_
    refine E.GL.skip rfl rfl rfl ?_
    refine E.GL.skip rfl rfl rfl ?_
    refine E.GL.skip rfl rfl rfl ?_
    refine E.GL.skip rfl rfl rfl ?_
    refine E.GL.run rfl rfl rfl (E.Runs.pick_t rfl rfl rfl) ?_
    refine E.GL.done ?_
    refine E.QG.code ?_
    refine E.CG.cond_t rfl ?_
    refine E.CG.seq ?_
    refine E.CG.list ?_
    refine E.GL.st rfl rfl rfl (E.ST.call rfl ent14 E.evn ((works_calls _).mono ?_))
    rintro e w49 ⟨rfl, l49⟩
    refine ⟨_, rfl, ?_⟩
    replace b3 := blk_below b3 l49
    replace b5 := blk_below b5 l49
    replace L := below_step L l49
    refine E.GL.run rfl rfl rfl (E.Runs.assign rfl rfl) ?_
    refine E.GL.done ?_
    refine E.QG.code ?_
    refine E.CG.ret ?_
    refine E.QG.pass_ret ?_
    exact E.QG.result rfl rfl ⟨rfl, L⟩

end Go.Proofs.Ythdbkhdiaehblaa.T
