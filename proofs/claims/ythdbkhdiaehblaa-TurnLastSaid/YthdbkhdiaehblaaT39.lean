/- TurnNext: Next tells what the reference tells; the walks. -/
import Derived.Test.YthdbkhdiaehblaaT36
namespace Go.Proofs.Ythdbkhdiaehblaa.T
open Go.RowKit Go.Proofs.YthdbkhdiaehblaaW.PrintWords Go.Proofs.YthdbkhdiaehblaaW.PrintMore
open Go.Proofs.Ythdbkhdiaehblaa.P
set_option linter.unusedVariables false
set_option linter.unusedSimpArgs false

theorem rd_last (l : List S36) (h : l ≠ []) : ∃ z, l[l.length - 1]? = some z ∧ rd_T36 l ((l.length : Int) - 1) = z := by
  have hp := List.length_pos_iff.mpr h
  exact ⟨l[l.length - 1], List.getElem?_eq_getElem (by omega), rd36_last l hp⟩
/-- One more slot behind valid ones. -/
theorem valid_snoc {H : Hs} {l : List S36} {z : S36} (h : Valid H l) (hn : l.length < 12) (hz : SlotOk H z) : Valid H (l ++ [z]) ↔ FollowsOk l z := by
  have hlen : (l ++ [z]).length = l.length + 1 := by simp
  constructor
  · rintro ⟨_, _, h3⟩
    have := (h3 l.length (Nat.zero_le _) (by omega)).2
    rw [List.getElem_append_right (by omega)] at this
    simpa using this
  · intro hf
    refine ⟨h.1, by omega, fun j _ hj => ?_⟩
    by_cases hjl : j < l.length
    · have := h.2.2 j (Nat.zero_le _) hjl
      rw [List.getElem_append_left hjl, List.take_append_of_le_length (by omega)]
      exact this
    · obtain rfl : j = l.length := by omega
      rw [List.getElem_append_right (by omega)]
      simp only [Nat.sub_self, List.getElem_cons_zero]
      rw [List.take_append_of_le_length (by omega), List.take_of_length_le (by omega)]
      exact ⟨hz, hf⟩
theorem slotOk_withB {H : Hs} {s : S36} (n : Int) : SlotOk H (withB s n) ↔ SlotOk H s := Iff.rfl
theorem startOf_is {H : Hs} {l : List S36} {z : S36} {t : Tm} (ht : (lateDay H (l ++ [z]))[l.length]? = some t) : startOf H l z = t.start := by
  unfold startOf
  obtain ⟨h1, h2⟩ := List.getElem?_eq_some_iff.1 ht
  have e : rd_Tm (allT (pcL H) H (dayAt 6 4) (l ++ [z])) (l.length : Int) = (allT (pcL H) H (dayAt 6 4) (l ++ [z]))[l.length]'h1 := rd_Tm_get _ _ h1
  rw [e]
  exact congrArg Tm.start h2
theorem nextFrom_at {H : Hs} {l : List S36} {s : S36} {i : Nat} (hi : i < 2001) : nextFrom H l s (2001 - i) (i : Int) = if NextOk H l s i then ((i : Int), 0) else nextFrom H l s (2001 - (i + 1)) ((i + 1 : Nat) : Int) := by
  obtain ⟨k, hk⟩ : ∃ k, 2001 - i = k + 1 := ⟨2000 - i, by omega⟩
  rw [hk, show 2001 - (i + 1) = k by omega]
  rfl
open Classical in
/-- What both texts tell of one more show. -/
noncomputable def nextE (H : Hs) (l : List S36) (s : S36) : Int × Int := if checkE H l = 0 then (if SlotOk H s ∧ l.length < 12 then nextFrom H l s 2001 0 else (0, 1)) else (0, checkE H l)
theorem next_own (H : Hs) (l : List S36) (s : S36) (A1 : Option Addr) (c1 : Nat) (w : World) (hl : l.length ≤ 1000000000000) (hr : Kd.C k36 w A1 l.length l) (hc : l.length ≤ c1) :
    Calls Try.prog 17 #[hv H, .slice A1 l.length c1, sv s] w fun e w' => e = .returned (.tuple #[.int .i64 (nextE H l s).1, .int .i64 (nextE H l s).2]) ∧ Below w.heap.size w w' := by
  by_cases h : checkE H l = 0
  · have V := (checkE_valid H l).mp h
    by_cases h1 : SlotOk H s
    · by_cases h2 : l.length < 12
      · simp only [nextE, if_pos h, if_pos (show SlotOk H s ∧ l.length < 12 from ⟨h1, h2⟩)]
        exact next_ok H l s A1 c1 w V h1 h2 hr hc
      · simp only [nextE, if_pos h, if_neg (show ¬ (SlotOk H s ∧ l.length < 12) from fun hh => h2 hh.2)]
        exact next_full H l s A1 c1 w V h1 (by omega) hr hc
    · simp only [nextE, if_pos h, if_neg (show ¬ (SlotOk H s ∧ l.length < 12) from fun hh => h1 hh.1)]
      exact next_arg H l s A1 c1 w V h1 hr hc
  · simp only [nextE, if_neg h]
    exact next_bad H l s A1 c1 w hl h hr hc

set_option maxRecDepth 100000 in
theorem lit36one (s : S36) (W : World) : (Instr.buildSlice 26 1 #[(0, sv s)]).run Try.prog W = .ok (.slice (some ⟨W.heap.size, 0, none⟩) 1 1) (W.alloc (.cells #[.int .i64 s.f0, .int .i64 s.f1, .int .i64 s.f2.f0, .int .i64 s.f2.f1, .int .i64 s.f3, .int .i64 s.f4] 36 (0, 0))) := by
  have hu26 := Try.underlying26
  go_simp
set_option maxRecDepth 100000 in
set_option maxHeartbeats 8000000 in

theorem next_ref (H : Hs) (l : List S36) (s : S36) (A1 : Option Addr) (c1 : Nat) (w : World) (hl : l.length ≤ 1000000000000) (hr : Kd.C k36 w A1 l.length l) (hc : l.length ≤ c1) :
    Calls Try.prog 21 #[hv H, .slice A1 l.length c1, sv s] w fun e w' => e = .returned (.tuple #[.int .i64 (nextE H l s).1, .int .i64 (nextE H l s).2]) ∧ Below w.heap.size w w' := by
  have hu3 := Try.underlying3
  have hu25 := Try.underlying25
  have hu26 := Try.underlying26
  have hu36 := Try.underlying36
  have hu53 := Try.underlying53
  have hu56 := Try.underlying56
  obtain ⟨z3, o3⟩ := info_some info3s (by decide)
  obtain ⟨z36, o36⟩ := info_some info36s (by decide)
  obtain ⟨z56, o56⟩ := info_some info56s (by decide)
  refine E.enter (N := 58) Try.func21 rfl Try.ntmps21 (args := [hv H, .slice A1 l.length c1, sv s]) (by simp) ?_
  have L := Below.refl w.heap.size w
  refine E.CG.seq ?_
  refine E.CG.list ?_
  refine E.GL.st rfl rfl rfl (E.ST.box rfl rfl fun g3 w3 e3 b3 l3 => ?_)
  have h3_L : w.heap.size ≤ g3 := by rw [e3]; exact L.size
  replace L := below_step L l3
  refine E.GL.st rfl rfl rfl (E.ST.box rfl rfl fun g5 w5 e5 b5 l5 => ?_)
  have h5_L : w.heap.size ≤ g5 := by rw [e5]; exact L.size
  have n5_b3 : g3 ≠ g5 := by have := blk_lt b3; omega
  replace b3 := blk_below b3 l5
  replace L := below_step L l5
  refine E.GL.run rfl rfl rfl (E.Runs.assign rfl rfl) ?_
  refine E.GL.run rfl rfl rfl (E.Runs.assign rfl rfl) ?_
  refine E.GL.done ?_
  refine E.QG.code ?_
  refine E.CG.seq ?_
  refine E.CG.seq ?_
  refine E.CG.list ?_
  refine E.GL.run rfl rfl rfl (E.Runs.loads (cs := [.int .i64 H.teams, .int .i64 H.walk, .int .i64 H.early, .int .i64 H.foyer, .int .i64 H.dl, .int .i64 H.dh, .int .i64 H.cl, .int .i64 H.ch]) rfl rfl hu25 rfl info25s (blk_cells b3)) ?_
  refine E.GL.run rfl rfl rfl (E.Runs.move rfl rfl) ?_
  refine E.GL.st rfl rfl rfl (E.ST.call rfl ent19 (E.evc rfl (E.evc rfl E.evn)) ((check_ref H l A1 c1 _ hl (Kd.C_below hr L) hc).mono ?_))
  rintro e w14 ⟨rfl, l14⟩
  refine ⟨_, rfl, ?_⟩
  replace b3 := blk_below b3 l14
  replace b5 := blk_below b5 l14
  replace L := below_step L l14
  refine E.GL.run rfl rfl rfl (E.Runs.assign rfl rfl) ?_
  refine E.GL.done ?_
  refine E.QG.code ?_
  refine E.CG.seq ?_
  refine E.CG.list ?_
  refine E.GL.run rfl rfl rfl (E.Runs.move rfl rfl) ?_
  refine E.GL.cmpn rfl rfl rfl (fun _ h => (E.Runs.neq rfl rfl rfl h)) (fun h16 => ?_) (fun h16 => ?_)
  · refine E.GL.done ?_
    refine E.QG.code ?_
    refine E.CG.cond_t rfl ?_
    refine E.CG.seq ?_
    refine E.CG.list ?_
    refine E.GL.run rfl rfl rfl (E.Runs.move rfl rfl) ?_
    refine E.GL.run rfl rfl rfl (E.Runs.assign rfl rfl) ?_
    refine E.GL.run rfl rfl rfl (E.Runs.assign rfl rfl) ?_
    refine E.GL.done ?_
    refine E.QG.code ?_
    refine E.CG.ret ?_
    refine E.QG.pass_ret ?_
    exact E.QG.result2 rfl rfl rfl ⟨by simp only [nextE, if_neg h16], L⟩
  · have V := (checkE_valid H l).mp h16
    have hn := V.2.1
    refine E.GL.done ?_
    refine E.QG.code ?_
    refine E.CG.cond_f rfl ?_
    refine E.CG.skip ?_
    refine E.QG.code ?_
    refine E.CG.seq ?_
    refine E.CG.seq ?_
    refine E.CG.list ?_
    refine E.GL.run rfl rfl rfl (E.Runs.loads (cs := [.int .i64 H.teams, .int .i64 H.walk, .int .i64 H.early, .int .i64 H.foyer, .int .i64 H.dl, .int .i64 H.dh, .int .i64 H.cl, .int .i64 H.ch]) rfl rfl hu25 rfl info25s (blk_cells b3)) ?_
    refine E.GL.run rfl rfl rfl (E.Runs.loads (cs := [.int .i64 s.f0, .int .i64 s.f1, .int .i64 s.f2.f0, .int .i64 s.f2.f1, .int .i64 s.f3, .int .i64 s.f4]) rfl rfl hu36 rfl info36s (blk_cells b5)) ?_
    by_cases h20 : SlotOk H s
    · refine E.GL.st rfl rfl rfl (E.ST.call rfl ent16 (E.evc rfl (E.evc rfl E.evn)) ((slot_r H s true (iff_of_true rfl h20) V.1 _).mono ?_))
      rintro e w20 ⟨rfl, l20⟩
      refine ⟨_, rfl, ?_⟩
      replace b3 := blk_below b3 l20
      replace b5 := blk_below b5 l20
      replace L := below_step L l20
      refine E.GL.run rfl rfl rfl (E.Runs.not rfl rfl) ?_
      refine E.GL.run rfl rfl rfl (E.Runs.move rfl rfl) ?_
      refine E.GL.run rfl rfl rfl (E.Runs.move rfl rfl) ?_
      refine E.GL.run rfl rfl rfl (E.Runs.len rfl rfl hu26) ?_
      refine E.GL.cmp rfl rfl rfl (fun _ h => (E.Runs.geq rfl rfl rfl h)) (fun h25 => ?_) (fun h25 => ?_)
      · refine E.GL.run rfl rfl rfl (E.Runs.pick_f rfl rfl rfl) ?_
        refine E.GL.done ?_
        refine E.QG.code ?_
        refine E.CG.cond_t rfl ?_
        refine E.CG.seq ?_
        refine E.CG.list ?_
        refine E.GL.run rfl rfl rfl (E.Runs.assign rfl rfl) ?_
        refine E.GL.run rfl rfl rfl (E.Runs.assign rfl rfl) ?_
        refine E.GL.done ?_
        refine E.QG.code ?_
        refine E.CG.ret ?_
        refine E.QG.pass_ret ?_
        exact E.QG.result2 rfl rfl rfl ⟨by simp only [nextE, if_pos h16, if_neg (show ¬ (SlotOk H s ∧ l.length < 12) from fun hh => by have := hh.2; omega)], L⟩
      · have hlt : l.length < 12 := by omega
        refine E.GL.run rfl rfl rfl (E.Runs.pick_f rfl rfl rfl) ?_
        refine E.GL.done ?_
        refine E.QG.code ?_
        refine E.CG.cond_f rfl ?_
        refine E.CG.skip ?_
        refine E.QG.code ?_
        refine E.CG.seq ?_
        refine E.CG.seq ?_
        refine E.CG.list ?_
        refine E.GL.run rfl rfl rfl (E.Runs.assign rfl rfl) ?_
        refine E.GL.done ?_
        refine E.QG.code ?_
        refine E.CG.block ?_
        have s7_b3 := b3
        have s7_b5 := b5
        have s7_L := L
        refine E.CG.loop (fun (i : Nat) => [(1, .slice A1 l.length c1), (3, .pointer (some ⟨g3, 0, none⟩)), (5, .pointer (some ⟨g5, 0, none⟩)), (9, .int .i64 i)]) (fun i w' => i ≤ 2001 ∧ (∃ x : Value, w'.heap[g5]? = some (.cells #[.int .i64 s.f0, x, .int .i64 s.f2.f0, .int .i64 s.f2.f1, .int .i64 s.f3, .int .i64 s.f4] 36 (0, 0))) ∧ w20.grownBy w' (some g5) ∧ nextFrom H l s 2001 0 = nextFrom H l s (2001 - i) i) (fun i => 2001 - i) 0 (E.subc rfl (E.subc rfl (E.subc rfl (E.subc rfl (E.subn))))) ⟨Nat.zero_le _, ⟨_, b5⟩, World.grownBy.refl _ _, rfl⟩ ?_
        rintro i w7 ⟨hi, ⟨x, b5⟩, gq, hq⟩
        replace b3 := blk_grown b3 gq (E.nes (by first | assumption | exact Ne.symm (by assumption)))
        replace L := E.below_own L h5_L gq
        refine E.CG.seq ?_
        refine E.CG.seq ?_
        refine E.CG.list ?_
        refine E.GL.run rfl rfl rfl (E.Runs.move rfl rfl) ?_
        refine E.GL.cmp rfl rfl rfl (fun _ h => (E.Runs.leq rfl rfl rfl h)) (fun h28 => ?_) (fun h28 => ?_)
        · have hi2 : i < 2001 := by omega
          have hst := nextFrom_at (H := H) (l := l) (s := s) hi2
          have hvs := valid_snoc (z := withB s (i : Int)) V hlt h20
          refine E.GL.done ?_
          refine E.QG.code ?_
          refine E.CG.cond_t rfl ?_
          refine E.CG.skip ?_
          refine E.QG.code ?_
          refine E.CG.seq ?_
          refine E.CG.block ?_
          refine E.CG.seq ?_
          refine E.CG.list ?_
          refine E.GL.run rfl rfl rfl (E.Runs.move rfl rfl) ?_
          refine E.GL.run rfl rfl rfl (E.Runs.fieldAddr rfl rfl hu36 rfl (by assumption) rfl) ?_
          refine E.GL.sn rfl rfl (E.ST.store rfl (by assumption) (by assumption) rfl rfl b5 rfl (show _ = #[.int .i64 s.f0, .int .i64 (i : Int), .int .i64 s.f2.f0, .int .i64 s.f2.f1, .int .i64 s.f3, .int .i64 s.f4] from rfl) fun wS9_2 c5 lS9_2 => ?_)
          replace b3 := blk_grown b3 lS9_2 (E.nes (by first | assumption | exact Ne.symm (by assumption)))
          replace L := E.below_own L h5_L lS9_2
          replace gq := gq.trans lS9_2
          replace b5 := c5
          clear c5
          refine E.GL.done ?_
          refine E.QG.code ?_
          refine E.CG.seq ?_
          refine E.CG.cut2 (fun (A : Option Addr) (c : Nat) => [(1, .slice A1 l.length c1), (3, .pointer (some ⟨g3, 0, none⟩)), (5, .pointer (some ⟨g5, 0, none⟩)), (9, .int .i64 i), (10, .slice A (l ++ [withB s (i : Int)]).length c)]) (fun A c w' => Kd.C k36 w' A (l ++ [withB s (i : Int)]).length (l ++ [withB s (i : Int)]) ∧ (l ++ [withB s (i : Int)]).length ≤ c ∧ w'.heap[g3]? = some (.cells #[.int .i64 H.teams, .int .i64 H.walk, .int .i64 H.early, .int .i64 H.foyer, .int .i64 H.dl, .int .i64 H.dh, .int .i64 H.cl, .int .i64 H.ch] 25 (0, 0)) ∧ w'.heap[g5]? = some (.cells #[.int .i64 s.f0, .int .i64 (i : Int), .int .i64 s.f2.f0, .int .i64 s.f2.f1, .int .i64 s.f3, .int .i64 s.f4] 36 (0, 0)) ∧ w20.grownBy w' (some g5) ∧ Below w.heap.size w w') ?_ ?_
          · refine E.CG.heldH (none) (by kernel_rfl) fun v10 lD hh => ?_
            replace b3 := blk_below b3 lD
            replace b5 := blk_below b5 lD
            replace gq := gq.trans (E.gbB lD)
            replace L := below_step L lD
            clear lD
            have q5 := b5
            have g5l : g5 < v10.heap.size := blk_lt b5
            have LV := Below.refl v10.heap.size v10
            have K0 := L
            refine E.GH.take (i := 1) rfl (by kernel_rfl) (by kernel_rfl) (by kernel_rfl) E.calm_cut2 rfl rfl rfl (fun w' hS => (E.Runs.move rfl rfl)) ?_
            refine E.GH.take (i := 3) rfl (by kernel_rfl) (by kernel_rfl) (by kernel_rfl) E.calm_cut2 rfl rfl rfl (fun w' hS => (E.Runs.loads (cs := [.int .i64 s.f0, .int .i64 (i : Int), .int .i64 s.f2.f0, .int .i64 s.f2.f1, .int .i64 s.f3, .int .i64 s.f4]) rfl rfl hu36 rfl info36s (blk_cells (blk_grown q5 hS E.nen)))) ?_
            refine E.GH.all (rs := [0, 4]) (by kernel_rfl) (by simp) (E.GHs.cons rfl ?_ (E.GHs.cons rfl ?_ E.GHs.nil))
            · refine E.GO.st rfl rfl rfl (E.ST.litAt k36 v10.heap.size (w0 := v10) (ys := ([] : List S36)) (inner := []) rfl rfl E.epn lit36n (Reps.none _ _) LV LV.size (by simp) fun u33 w33 R k33 l33 a33 => ⟨hh.trans (E.gbB l33), ?_⟩)
              replace hh := hh.trans (E.gbB l33)
              replace b3 := blk_below b3 l33
              replace b5 := blk_below b5 l33
              replace LV := k33
              refine E.GH.all (rs := [2, 4]) (by kernel_rfl) (by simp) (E.GHs.cons rfl ?_ (E.GHs.cons rfl ?_ E.GHs.nil))
              · refine E.GO.st rfl rfl rfl (E.ST.appendAt k36 v10.heap.size (w0 := v10) (s := .tmp 33) (x := .tmp 34) rfl hu26 info36 rfl (by decide) (by decide) rfl rfl R (Kd.C_below hr (below_step K0 LV)) k36_made LV LV.size (by simp only [List.length_nil]; omega) fun u35 w35 r35 k35 gr35 a35 => ⟨E.gb_row hh gr35 (Kd.R_base R), ?_⟩)
                have R_ := Kd.R_base R
                replace hh := E.gb_row hh gr35 R_
                replace b3 := blk_grown b3 gr35 (Kd.R_ne R b3 (by decide))
                replace b5 := blk_grown b5 gr35 (fun e => by have := R_ g5 e.symm; omega)
                replace R := r35
                replace LV := k35
                clear R_ r35 k35
                rw [List.nil_append] at R
                refine E.GH.one (i := 4) (by kernel_rfl) rfl ?_
                refine E.GO.st rfl rfl rfl (E.ST.litB rfl (E.epc rfl E.epn) (lit36one (withB s (i : Int))) fun g37 w37 e37 b37 l37 => ⟨hh.trans (E.gbB l37), ?_⟩)
                replace hh := hh.trans (E.gbB l37)
                have n37 : some g37 ≠ u35.ownBlock := fun e => by have := Kd.R_lt R _ e.symm; omega
                replace R := Kd.R_below R l37
                replace b3 := blk_below b3 l37
                replace b5 := blk_below b5 l37
                replace LV := below_step LV l37
                refine E.GH.one (i := 5) (by kernel_rfl) rfl ?_
                refine E.GO.st rfl rfl rfl (E.ST.appendAt k36 v10.heap.size (w0 := v10) (s := .tmp 35) (x := .tmp 37) rfl hu26 info36 rfl (by decide) (by decide) rfl rfl R (C_one (withB s (i : Int)) b37) k36_made LV LV.size (by first | omega | (simp only [List.nil_append]; omega)) fun u38 w38 r38 k38 gr38 a38 => ⟨E.gb_row hh gr38 (Kd.R_base R), ?_⟩)
                have R_ := Kd.R_base R
                replace hh := E.gb_row hh gr38 R_
                replace b3 := blk_grown b3 gr38 (Kd.R_ne R b3 (by decide))
                replace b5 := blk_grown b5 gr38 (fun e => by have := R_ g5 e.symm; omega)
                replace R := r38
                replace LV := k38
                clear R_ r38 k38
                refine E.GH.take (i := 6) rfl (by kernel_rfl) (by kernel_rfl) (by kernel_rfl) E.calm_cut2 rfl rfl rfl (fun w' hS => (E.Runs.assign rfl rfl)) ?_
                obtain ⟨A10, c10, h10⟩ := Kd.R_slice R
                subst h10
                obtain ⟨_, hq2, hq3⟩ := Kd.R_reads' R
                refine E.GH.done (by kernel_rfl) ?_
                exact E.QG.meet2 _ _ (E.subc rfl (E.subc rfl (E.subc rfl (E.subc rfl (E.subc rfl (E.subn)))))) ⟨hq3, hq2, b3, b5, E.gb_row gq hh (fun _ e => nomatch e), below_step K0 LV⟩
              · refine E.GO.st rfl rfl rfl (E.ST.litB rfl (E.epc rfl E.epn) (lit36one (withB s (i : Int))) fun g37 w37 e37 b37 l37 => ⟨hh.trans (E.gbB l37), ?_⟩)
                replace hh := hh.trans (E.gbB l37)
                have n37 : some g37 ≠ u33.ownBlock := fun e => by have := Kd.R_lt R _ e.symm; omega
                replace R := Kd.R_below R l37
                replace b3 := blk_below b3 l37
                replace b5 := blk_below b5 l37
                replace LV := below_step LV l37
                refine E.GH.one (i := 2) (by kernel_rfl) rfl ?_
                refine E.GO.st rfl rfl rfl (E.ST.appendAt k36 v10.heap.size (w0 := v10) (s := .tmp 33) (x := .tmp 34) rfl hu26 info36 rfl (by decide) (by decide) rfl rfl R (Kd.C_below hr (below_step K0 LV)) k36_made LV LV.size (by simp only [List.length_nil]; omega) fun u35 w35 r35 k35 gr35 a35 => ⟨E.gb_row hh gr35 (Kd.R_base R), ?_⟩)
                have R_ := Kd.R_base R
                replace hh := E.gb_row hh gr35 R_
                replace b3 := blk_grown b3 gr35 (Kd.R_ne R b3 (by decide))
                replace b5 := blk_grown b5 gr35 (fun e => by have := R_ g5 e.symm; omega)
                replace b37 := blk_grown b37 gr35 n37
                replace R := r35
                replace LV := k35
                clear R_ r35 k35
                rw [List.nil_append] at R
                refine E.GH.one (i := 5) (by kernel_rfl) rfl ?_
                refine E.GO.st rfl rfl rfl (E.ST.appendAt k36 v10.heap.size (w0 := v10) (s := .tmp 35) (x := .tmp 37) rfl hu26 info36 rfl (by decide) (by decide) rfl rfl R (C_one (withB s (i : Int)) b37) k36_made LV LV.size (by first | omega | (simp only [List.nil_append]; omega)) fun u38 w38 r38 k38 gr38 a38 => ⟨E.gb_row hh gr38 (Kd.R_base R), ?_⟩)
                have R_ := Kd.R_base R
                replace hh := E.gb_row hh gr38 R_
                replace b3 := blk_grown b3 gr38 (Kd.R_ne R b3 (by decide))
                replace b5 := blk_grown b5 gr38 (fun e => by have := R_ g5 e.symm; omega)
                replace R := r38
                replace LV := k38
                clear R_ r38 k38
                refine E.GH.take (i := 6) rfl (by kernel_rfl) (by kernel_rfl) (by kernel_rfl) E.calm_cut2 rfl rfl rfl (fun w' hS => (E.Runs.assign rfl rfl)) ?_
                obtain ⟨A10, c10, h10⟩ := Kd.R_slice R
                subst h10
                obtain ⟨_, hq2, hq3⟩ := Kd.R_reads' R
                refine E.GH.done (by kernel_rfl) ?_
                exact E.QG.meet2 _ _ (E.subc rfl (E.subc rfl (E.subc rfl (E.subc rfl (E.subc rfl (E.subn)))))) ⟨hq3, hq2, b3, b5, E.gb_row gq hh (fun _ e => nomatch e), below_step K0 LV⟩
            · refine E.GO.st rfl rfl rfl (E.ST.litB rfl (E.epc rfl E.epn) (lit36one (withB s (i : Int))) fun g37 w37 e37 b37 l37 => ⟨hh.trans (E.gbB l37), ?_⟩)
              replace hh := hh.trans (E.gbB l37)
              replace b3 := blk_below b3 l37
              replace b5 := blk_below b5 l37
              replace LV := below_step LV l37
              refine E.GH.one (i := 0) (by kernel_rfl) rfl ?_
              refine E.GO.st rfl rfl rfl (E.ST.litAt k36 v10.heap.size (w0 := v10) (ys := ([] : List S36)) (inner := []) rfl rfl E.epn lit36n (Reps.none _ _) LV LV.size (by simp) fun u33 w33 R k33 l33 a33 => ⟨hh.trans (E.gbB l33), ?_⟩)
              replace hh := hh.trans (E.gbB l33)
              have n37 : some g37 ≠ u33.ownBlock := fun e => by obtain ⟨k, e1, e2⟩ := a33; rw [e1] at e; have := Option.some.inj e; have := blk_lt b37; omega
              replace b37 := blk_below b37 l33
              replace b3 := blk_below b3 l33
              replace b5 := blk_below b5 l33
              replace LV := k33
              refine E.GH.one (i := 2) (by kernel_rfl) rfl ?_
              refine E.GO.st rfl rfl rfl (E.ST.appendAt k36 v10.heap.size (w0 := v10) (s := .tmp 33) (x := .tmp 34) rfl hu26 info36 rfl (by decide) (by decide) rfl rfl R (Kd.C_below hr (below_step K0 LV)) k36_made LV LV.size (by simp only [List.length_nil]; omega) fun u35 w35 r35 k35 gr35 a35 => ⟨E.gb_row hh gr35 (Kd.R_base R), ?_⟩)
              have R_ := Kd.R_base R
              replace hh := E.gb_row hh gr35 R_
              replace b3 := blk_grown b3 gr35 (Kd.R_ne R b3 (by decide))
              replace b5 := blk_grown b5 gr35 (fun e => by have := R_ g5 e.symm; omega)
              replace b37 := blk_grown b37 gr35 n37
              replace R := r35
              replace LV := k35
              clear R_ r35 k35
              rw [List.nil_append] at R
              refine E.GH.one (i := 5) (by kernel_rfl) rfl ?_
              refine E.GO.st rfl rfl rfl (E.ST.appendAt k36 v10.heap.size (w0 := v10) (s := .tmp 35) (x := .tmp 37) rfl hu26 info36 rfl (by decide) (by decide) rfl rfl R (C_one (withB s (i : Int)) b37) k36_made LV LV.size (by first | omega | (simp only [List.nil_append]; omega)) fun u38 w38 r38 k38 gr38 a38 => ⟨E.gb_row hh gr38 (Kd.R_base R), ?_⟩)
              have R_ := Kd.R_base R
              replace hh := E.gb_row hh gr38 R_
              replace b3 := blk_grown b3 gr38 (Kd.R_ne R b3 (by decide))
              replace b5 := blk_grown b5 gr38 (fun e => by have := R_ g5 e.symm; omega)
              replace R := r38
              replace LV := k38
              clear R_ r38 k38
              refine E.GH.take (i := 6) rfl (by kernel_rfl) (by kernel_rfl) (by kernel_rfl) E.calm_cut2 rfl rfl rfl (fun w' hS => (E.Runs.assign rfl rfl)) ?_
              obtain ⟨A10, c10, h10⟩ := Kd.R_slice R
              subst h10
              obtain ⟨_, hq2, hq3⟩ := Kd.R_reads' R
              refine E.GH.done (by kernel_rfl) ?_
              exact E.QG.meet2 _ _ (E.subc rfl (E.subc rfl (E.subc rfl (E.subc rfl (E.subc rfl (E.subn)))))) ⟨hq3, hq2, b3, b5, E.gb_row gq hh (fun _ e => nomatch e), below_step K0 LV⟩
          clear b3 b5 gq L
          intro A c w10 ⟨C10, hc10, b3, b5, gq, L⟩
          have l0 := Below.refl w10.heap.size w10
          refine E.QG.code ?_
          refine E.CG.seq ?_
          refine E.CG.seq ?_
          refine E.CG.list ?_
          refine E.GL.run rfl rfl rfl (E.Runs.loads (cs := [.int .i64 H.teams, .int .i64 H.walk, .int .i64 H.early, .int .i64 H.foyer, .int .i64 H.dl, .int .i64 H.dh, .int .i64 H.cl, .int .i64 H.ch]) rfl rfl hu25 rfl info25s (blk_cells b3)) ?_
          refine E.GL.run rfl rfl rfl (E.Runs.move rfl rfl) ?_
          refine E.GL.st rfl rfl rfl (E.ST.call rfl ent19 (E.evc rfl (E.evc rfl E.evn)) ((check_ref H (l ++ [withB s (i : Int)]) A c _ (by simp; omega) (Kd.C_below C10 l0) hc10).mono ?_))
          rintro e w41 ⟨rfl, l41⟩
          refine ⟨_, rfl, ?_⟩
          replace b3 := blk_below b3 l41
          replace b5 := blk_below b5 l41
          replace L := below_step L l41
          replace l0 := below_step l0 l41
          replace gq := gq.trans (E.gbB l41)
          refine E.GL.cmpn rfl rfl rfl (fun _ h => (E.Runs.neq rfl rfl rfl h)) (fun h42 => ?_) (fun h42 => ?_)
          · have hno : ¬ NextOk H l s i := fun hh => h42 ((checkE_valid H _).mpr (hvs.mpr hh.1))
            refine E.GL.done ?_
            refine E.QG.code ?_
            refine E.CG.cond_t rfl ?_
            refine E.CG.exit ?_
            refine E.QG.pass_exit ?_
            refine E.QG.block_here ?_
            refine E.QG.code ?_
            refine E.CG.list ?_
            refine E.GL.run rfl rfl rfl (E.Runs.move rfl rfl) ?_
            refine E.GL.run rfl rfl rfl (E.Runs.add rfl rfl rfl (IntWalk.i64_in _ (by omega))) ?_
            refine E.GL.run rfl rfl rfl (E.Runs.assign rfl rfl) ?_
            refine E.GL.done ?_
            exact E.QG.round (i + 1) (E.subc rfl (E.subc rfl (E.subc rfl (E.subc rfl E.subn)))) ⟨by omega, ⟨_, b5⟩, gq, by rw [hq, hst, if_neg hno]⟩ (by omega)
          · have V2 := (checkE_valid H _).mp h42
            refine E.GL.done ?_
            refine E.QG.code ?_
            refine E.CG.cond_f rfl ?_
            refine E.CG.skip ?_
            refine E.QG.code ?_
            refine E.CG.seq ?_
            refine E.CG.heldH (none) (by kernel_rfl) fun v12 lD hh => ?_
            replace b3 := blk_below b3 lD
            replace b5 := blk_below b5 lD
            replace L := below_step L lD
            replace l0 := below_step l0 lD
            replace gq := gq.trans (E.gbB lD)
            clear lD
            have s_b3 := b3
            have s_b5 := b5
            have s_L := L
            have s_l0 := l0
            have s_gq := gq
            refine E.GH.take (i := 0) rfl (by kernel_rfl) (by kernel_rfl) (by kernel_rfl) (by intro c a d v w h; cases d <;> exact h) rfl rfl rfl (fun w' hS => (E.Runs.loads (cs := [.int .i64 H.teams, .int .i64 H.walk, .int .i64 H.early, .int .i64 H.foyer, .int .i64 H.dl, .int .i64 H.dh, .int .i64 H.cl, .int .i64 H.ch]) rfl rfl hu25 rfl info25s (blk_cells (blk_grown s_b3 hS E.nen)))) ?_
            refine E.GH.take (i := 1) rfl (by kernel_rfl) (by kernel_rfl) (by kernel_rfl) (by intro c a d v w h; cases d <;> exact h) rfl rfl rfl (fun w' hS => (E.Runs.move rfl rfl)) ?_
            refine E.GH.take (i := 2) rfl (by kernel_rfl) (by kernel_rfl) (by kernel_rfl) (by intro c a d v w h; cases d <;> exact h) rfl rfl rfl (fun w' hS => (E.Runs.loads (cs := [.int .i64 H.teams, .int .i64 H.walk, .int .i64 H.early, .int .i64 H.foyer, .int .i64 H.dl, .int .i64 H.dh, .int .i64 H.cl, .int .i64 H.ch]) rfl rfl hu25 rfl info25s (blk_cells (blk_grown s_b3 hS E.nen)))) ?_
            refine E.GH.take (i := 3) rfl (by kernel_rfl) (by kernel_rfl) (by kernel_rfl) (by intro c a d v w h; cases d <;> exact h) rfl rfl rfl (fun w' hS => (E.Runs.move rfl rfl)) ?_
            refine E.GH.one (i := 4) (by kernel_rfl) rfl ?_
            refine E.GO.st rfl rfl rfl (E.ST.call rfl ent50 (E.evc rfl (E.evc rfl (E.evc rfl E.evn))) ((bound_late H (l ++ [withB s (i : Int)]) A c _ (by simp; omega) (Kd.C_below C10 l0) hc10).mono ?_))
            rintro e w47 ⟨Ar, cr, Ac, cc, rfl, C1, D1, l47⟩
            refine ⟨_, rfl, hh.trans (E.gbB l47), ?_⟩
            replace hh := hh.trans (E.gbB l47)
            replace b3 := blk_below b3 l47
            replace b5 := blk_below b5 l47
            replace L := below_step L l47
            replace l0 := below_step l0 l47
            replace gq := gq.trans (E.gbB l47)
            refine E.GH.one (i := 5) (by kernel_rfl) rfl ?_
            refine E.GO.st rfl rfl rfl (E.ST.call rfl ent24 (E.evc rfl (E.evc rfl (E.evc rfl E.evn))) ((run_late H (l ++ [withB s (i : Int)]) A Ar Ac c cr cc _ V2 (Kd.C_below C10 l0) hc10 C1 D1).mono ?_))
            rintro e w48 ⟨Ae, ce, rfl, ke, re, l48⟩
            refine ⟨_, rfl, hh.trans (E.gbB l48), ?_⟩
            replace hh := hh.trans (E.gbB l48)
            replace b3 := blk_below b3 l48
            replace b5 := blk_below b5 l48
            replace L := below_step L l48
            replace l0 := below_step l0 l48
            replace gq := gq.trans (E.gbB l48)
            have le := Below.refl w48.heap.size w48
            have hls : (l ++ [withB s (i : Int)]).length = l.length + 1 := by simp
            obtain ⟨t, ht⟩ : ∃ t, (lateDay H (l ++ [withB s (i : Int)]))[l.length]? = some t := ⟨_, List.getElem?_eq_getElem (by rw [allT_length, hls]; omega)⟩
            have hs0 := startOf_is ht
            obtain ⟨ae, eT, T⟩ := tm_at re ht
            have hll : (l.length : Int) < ((l ++ [withB s (i : Int)]).length : Int) := by omega
            refine E.GH.take (i := 6) rfl (by kernel_rfl) (by kernel_rfl) (by kernel_rfl) (by intro c a d v w h; cases d <;> exact h) rfl rfl rfl (fun w' hS => (E.Runs.assign rfl rfl)) ?_
            refine E.GH.done (by kernel_rfl) ?_
            refine E.QG.code ?_
            refine E.CG.seq ?_
            refine E.CG.list ?_
            refine E.GL.run rfl rfl rfl (E.Runs.move rfl rfl) ?_
            refine E.GL.run rfl rfl rfl (E.Runs.move rfl rfl) ?_
            refine E.GL.run rfl rfl rfl (E.Runs.len rfl rfl hu26) ?_
            refine E.GL.run rfl rfl rfl (E.Runs.indexAddrA rfl rfl rfl hu53 (by assumption) (by assumption) (by assumption) (by first | rfl | assumption) rfl) ?_
            refine E.GL.run rfl rfl rfl (E.Runs.fieldAddr rfl rfl hu56 rfl (by assumption) rfl) ?_
            obtain ⟨x0, x1, x2, x3, x4⟩ := T.below le
            refine E.GL.run rfl rfl rfl (E.Runs.load rfl rfl hu3 (by first | assumption | exact E.blkc (by assumption) rfl | exact pw_cell_below L (by assumption) | exact pw_cell_below l0 (by assumption) | exact E.keeps gq (by assumption) (by first | exact E.nen | exact E.nes (by assumption) | exact E.nes (Ne.symm (by assumption))) | exact pw_cell_below le (by assumption))) ?_
            refine E.GL.run rfl rfl rfl (E.Runs.move rfl rfl) ?_
            refine E.GL.cmp rfl rfl rfl (fun _ h => (E.Runs.eql rfl rfl rfl h)) (fun h56 => ?_) (fun h56 => ?_)
            · refine E.GL.done ?_
              refine E.QG.code ?_
              refine E.CG.cond_t rfl ?_
              refine E.CG.seq ?_
              refine E.CG.list ?_
              refine E.GL.run rfl rfl rfl (E.Runs.move rfl rfl) ?_
              refine E.GL.run rfl rfl rfl (E.Runs.assign rfl rfl) ?_
              refine E.GL.run rfl rfl rfl (E.Runs.assign rfl rfl) ?_
              refine E.GL.done ?_
              refine E.QG.code ?_
              refine E.CG.ret ?_
              refine E.QG.block_ret ?_
              refine E.QG.pass_ret ?_
              refine E.QG.pass_ret ?_
              refine E.QG.block_ret ?_
              refine E.QG.pass_ret ?_
              exact E.QG.result2 rfl rfl rfl ⟨by simp only [nextE, if_pos h16, if_pos (show SlotOk H s ∧ l.length < 12 from ⟨h20, hlt⟩)]; rw [hq, hst, if_pos (show NextOk H l s i from ⟨hvs.mp V2, by rw [hs0]; exact h56⟩)], L⟩
            · have hno : ¬ NextOk H l s i := fun hh => h56 (by rw [← hs0]; exact hh.2)
              refine E.GL.done ?_
              refine E.QG.code ?_
              refine E.CG.cond_f rfl ?_
              refine E.CG.skip ?_
              refine E.QG.block_normal ?_
              refine E.QG.code ?_
              refine E.CG.list ?_
              refine E.GL.run rfl rfl rfl (E.Runs.move rfl rfl) ?_
              refine E.GL.run rfl rfl rfl (E.Runs.add rfl rfl rfl (IntWalk.i64_in _ (by omega))) ?_
              refine E.GL.run rfl rfl rfl (E.Runs.assign rfl rfl) ?_
              refine E.GL.done ?_
              exact E.QG.round (i + 1) (E.subc rfl (E.subc rfl (E.subc rfl (E.subc rfl E.subn)))) ⟨by omega, ⟨_, b5⟩, gq, by rw [hq, hst, if_neg hno]⟩ (by omega)
        · refine E.GL.done ?_
          refine E.QG.code ?_
          refine E.CG.cond_f rfl ?_
          refine E.CG.exit ?_
          refine E.QG.pass_exit ?_
          refine E.QG.pass_exit ?_
          refine E.QG.block_here ?_
          refine E.QG.code ?_
          refine E.CG.seq ?_
          refine E.CG.list ?_
          refine E.GL.run rfl rfl rfl (E.Runs.assign rfl rfl) ?_
          refine E.GL.run rfl rfl rfl (E.Runs.assign rfl rfl) ?_
          refine E.GL.done ?_
          refine E.QG.code ?_
          refine E.CG.ret ?_
          exact E.QG.result2 rfl rfl rfl ⟨by simp only [nextE, if_pos h16, if_pos (show SlotOk H s ∧ l.length < 12 from ⟨h20, hlt⟩)]; rw [hq, show 2001 - i = 0 by omega]; rfl, L⟩
    · refine E.GL.st rfl rfl rfl (E.ST.call rfl ent16 (E.evc rfl (E.evc rfl E.evn)) ((slot_r H s false (iff_of_false Bool.false_ne_true h20) V.1 _).mono ?_))
      rintro e w20 ⟨rfl, l20⟩
      refine ⟨_, rfl, ?_⟩
      replace b3 := blk_below b3 l20
      replace b5 := blk_below b5 l20
      replace L := below_step L l20
      refine E.GL.run rfl rfl rfl (E.Runs.not rfl rfl) ?_
      refine E.GL.run rfl rfl rfl (E.Runs.move rfl rfl) ?_
      refine E.GL.skip rfl rfl rfl ?_
      refine E.GL.skip rfl rfl rfl ?_
      refine E.GL.skip rfl rfl rfl ?_
      refine E.GL.run rfl rfl rfl (E.Runs.pick_t rfl rfl rfl) ?_
      refine E.GL.done ?_
      refine E.QG.code ?_
      refine E.CG.cond_t rfl ?_
      refine E.CG.seq ?_
      refine E.CG.list ?_
      refine E.GL.run rfl rfl rfl (E.Runs.assign rfl rfl) ?_
      refine E.GL.run rfl rfl rfl (E.Runs.assign rfl rfl) ?_
      refine E.GL.done ?_
      refine E.QG.code ?_
      refine E.CG.ret ?_
      refine E.QG.pass_ret ?_
      exact E.QG.result2 rfl rfl rfl ⟨by simp only [nextE, if_pos h16, if_neg (show ¬ (SlotOk H s ∧ l.length < 12) from fun hh => h20 hh.1)], L⟩

set_option maxRecDepth 100000 in
set_option maxHeartbeats 8000000 in

theorem next_law (H : Hs) (l : List S36) (s : S36) (A1 : Option Addr) (c1 : Nat) (w : World) (hr : Kd.C k36 w A1 l.length l) (hc : l.length ≤ c1) :
    Calls Try.prog 5 #[hv H, .slice A1 l.length c1, sv s] w fun e w' => e = .returned (.bool true) ∧ Below w.heap.size w w' := by
  have hu25 := Try.underlying25
  have hu26 := Try.underlying26
  have hu36 := Try.underlying36
  refine E.enter (N := 40) Try.func5 rfl Try.ntmps5 (args := [hv H, .slice A1 l.length c1, sv s]) (by simp) ?_
  have L := Below.refl w.heap.size w
  refine E.CG.seq ?_
  refine E.CG.list ?_
  refine E.GL.st rfl rfl rfl (E.ST.box rfl rfl fun g3 w3 e3 b3 l3 => ?_)
  have h3_L : w.heap.size ≤ g3 := by rw [e3]; exact L.size
  replace L := below_step L l3
  refine E.GL.st rfl rfl rfl (E.ST.box rfl rfl fun g5 w5 e5 b5 l5 => ?_)
  have h5_L : w.heap.size ≤ g5 := by rw [e5]; exact L.size
  have n5_b3 : g3 ≠ g5 := by have := blk_lt b3; omega
  replace b3 := blk_below b3 l5
  replace L := below_step L l5
  refine E.GL.run rfl rfl rfl (E.Runs.assign rfl rfl) ?_
  refine E.GL.done ?_
  refine E.QG.code ?_
  refine E.CG.seq ?_
  refine E.CG.seq ?_
  refine E.CG.list ?_
  refine E.GL.run rfl rfl rfl (E.Runs.move rfl rfl) ?_
  by_cases h12 : 40 < l.length
  · refine E.GL.st rfl rfl rfl (E.ST.call rfl ent20 (E.evc rfl E.evn) ((far_row l A1 c1 true (iff_of_true rfl h12) _).mono ?_))
    rintro e w12 ⟨rfl, l12⟩
    refine ⟨_, rfl, ?_⟩
    replace b3 := blk_below b3 l12
    replace b5 := blk_below b5 l12
    replace L := below_step L l12
    refine E.GL.done ?_
    refine E.QG.code ?_
    refine E.CG.cond_t rfl ?_
    refine E.CG.seq ?_
    refine E.CG.list ?_
    refine E.GL.st rfl rfl rfl (E.ST.call rfl ent14 E.evn ((works_calls _).mono ?_))
    rintro e w13 ⟨rfl, l13⟩
    refine ⟨_, rfl, ?_⟩
    replace b3 := blk_below b3 l13
    replace b5 := blk_below b5 l13
    replace L := below_step L l13
    refine E.GL.run rfl rfl rfl (E.Runs.assign rfl rfl) ?_
    refine E.GL.done ?_
    refine E.QG.code ?_
    refine E.CG.ret ?_
    refine E.QG.pass_ret ?_
    exact E.QG.result rfl rfl ⟨rfl, L⟩
  · have hn : l.length ≤ 40 := by omega
    refine E.GL.st rfl rfl rfl (E.ST.call rfl ent20 (E.evc rfl E.evn) ((far_row l A1 c1 false (iff_of_false Bool.false_ne_true h12) _).mono ?_))
    rintro e w12 ⟨rfl, l12⟩
    refine ⟨_, rfl, ?_⟩
    replace b3 := blk_below b3 l12
    replace b5 := blk_below b5 l12
    replace L := below_step L l12
    refine E.GL.done ?_
    refine E.QG.code ?_
    refine E.CG.cond_f rfl ?_
    refine E.CG.skip ?_
    refine E.QG.code ?_
    refine E.CG.seq ?_
    refine E.CG.heldH (none) (by kernel_rfl) fun v3 lD hh => ?_
    replace b3 := blk_below b3 lD
    replace b5 := blk_below b5 lD
    replace L := below_step L lD
    clear lD
    have s_b3 := b3
    have s_b5 := b5
    have s_L := L
    refine E.GH.take (i := 0) rfl (by kernel_rfl) (by kernel_rfl) (by kernel_rfl) (by intro c a d v w h; cases d <;> exact h) rfl rfl rfl (fun w' hS => (E.Runs.loads (cs := [.int .i64 H.teams, .int .i64 H.walk, .int .i64 H.early, .int .i64 H.foyer, .int .i64 H.dl, .int .i64 H.dh, .int .i64 H.cl, .int .i64 H.ch]) rfl rfl hu25 rfl info25s (blk_cells (blk_grown s_b3 hS E.nen)))) ?_
    refine E.GH.take (i := 1) rfl (by kernel_rfl) (by kernel_rfl) (by kernel_rfl) (by intro c a d v w h; cases d <;> exact h) rfl rfl rfl (fun w' hS => (E.Runs.move rfl rfl)) ?_
    refine E.GH.take (i := 3) rfl (by kernel_rfl) (by kernel_rfl) (by kernel_rfl) (by intro c a d v w h; cases d <;> exact h) rfl rfl rfl (fun w' hS => (E.Runs.loads (cs := [.int .i64 s.f0, .int .i64 s.f1, .int .i64 s.f2.f0, .int .i64 s.f2.f1, .int .i64 s.f3, .int .i64 s.f4]) rfl rfl hu36 rfl info36s (blk_cells (blk_grown s_b5 hS E.nen)))) ?_
    refine E.GH.one (i := 2) (by kernel_rfl) rfl ?_
    refine E.GO.st rfl rfl rfl (E.ST.call rfl ent18 (E.evc rfl E.evn) ((copied_row l A1 c1 _ (by omega) (Kd.C_below hr L) hc).mono ?_))
    rintro e w17 ⟨Ao, co, rfl, ko, ro, l17⟩
    refine ⟨_, rfl, hh.trans (E.gbB l17), ?_⟩
    replace hh := hh.trans (E.gbB l17)
    replace b3 := blk_below b3 l17
    replace b5 := blk_below b5 l17
    replace L := below_step L l17
    have lo := Below.refl w17.heap.size w17
    refine E.GH.one (i := 4) (by kernel_rfl) rfl ?_
    refine E.GO.st rfl rfl rfl (E.ST.call rfl ent17 (E.evc rfl (E.evc rfl (E.evc rfl E.evn))) ((next_own H l s Ao co _ (by omega) (Kd.C_below ro lo) ko).mono ?_))
    rintro e w19 ⟨rfl, l19⟩
    refine ⟨_, rfl, hh.trans (E.gbB l19), ?_⟩
    replace hh := hh.trans (E.gbB l19)
    replace b3 := blk_below b3 l19
    replace b5 := blk_below b5 l19
    replace L := below_step L l19
    replace lo := below_step lo l19
    refine E.GH.take (i := 5) rfl (by kernel_rfl) (by kernel_rfl) (by kernel_rfl) (by intro c a d v w h; cases d <;> exact h) rfl rfl rfl (fun w' hS => (E.Runs.move rfl rfl)) ?_
    refine E.GH.take (i := 6) rfl (by kernel_rfl) (by kernel_rfl) (by kernel_rfl) (by intro c a d v w h; cases d <;> exact h) rfl rfl rfl (fun w' hS => (E.Runs.extract rfl rfl rfl)) ?_
    refine E.GH.take (i := 7) rfl (by kernel_rfl) (by kernel_rfl) (by kernel_rfl) (by intro c a d v w h; cases d <;> exact h) rfl rfl rfl (fun w' hS => (E.Runs.extract rfl rfl rfl)) ?_
    refine E.GH.take (i := 8) rfl (by kernel_rfl) (by kernel_rfl) (by kernel_rfl) (by intro c a d v w h; cases d <;> exact h) rfl rfl rfl (fun w' hS => (E.Runs.assign rfl rfl)) ?_
    refine E.GH.take (i := 9) rfl (by kernel_rfl) (by kernel_rfl) (by kernel_rfl) (by intro c a d v w h; cases d <;> exact h) rfl rfl rfl (fun w' hS => (E.Runs.assign rfl rfl)) ?_
    refine E.GH.done (by kernel_rfl) ?_
    refine E.QG.code ?_
    refine E.CG.seq ?_
    refine E.CG.list ?_
    refine E.GL.run rfl rfl rfl (E.Runs.loads (cs := [.int .i64 H.teams, .int .i64 H.walk, .int .i64 H.early, .int .i64 H.foyer, .int .i64 H.dl, .int .i64 H.dh, .int .i64 H.cl, .int .i64 H.ch]) rfl rfl hu25 rfl info25s (blk_cells b3)) ?_
    refine E.GL.run rfl rfl rfl (E.Runs.move rfl rfl) ?_
    refine E.GL.run rfl rfl rfl (E.Runs.loads (cs := [.int .i64 s.f0, .int .i64 s.f1, .int .i64 s.f2.f0, .int .i64 s.f2.f1, .int .i64 s.f3, .int .i64 s.f4]) rfl rfl hu36 rfl info36s (blk_cells b5)) ?_
    refine E.GL.st rfl rfl rfl (E.ST.call rfl ent21 (E.evc rfl (E.evc rfl (E.evc rfl E.evn))) ((next_ref H l s A1 c1 _ (by omega) (Kd.C_below hr L) hc).mono ?_))
    rintro e w26 ⟨rfl, l26⟩
    refine ⟨_, rfl, ?_⟩
    replace b3 := blk_below b3 l26
    replace b5 := blk_below b5 l26
    replace L := below_step L l26
    replace lo := below_step lo l26
    refine E.GL.run rfl rfl rfl (E.Runs.move rfl rfl) ?_
    refine E.GL.run rfl rfl rfl (E.Runs.extract rfl rfl rfl) ?_
    refine E.GL.run rfl rfl rfl (E.Runs.extract rfl rfl rfl) ?_
    refine E.GL.run rfl rfl rfl (E.Runs.assign rfl rfl) ?_
    refine E.GL.run rfl rfl rfl (E.Runs.assign rfl rfl) ?_
    refine E.GL.done ?_
    refine E.QG.code ?_
    refine E.CG.seq ?_
    refine E.CG.list ?_
    refine E.GL.run rfl rfl rfl (E.Runs.move rfl rfl) ?_
    refine E.GL.run rfl rfl rfl (E.Runs.move rfl rfl) ?_
    refine E.GL.run rfl rfl rfl (E.Runs.eql rfl rfl rfl (decide_eq_true rfl)) ?_
    refine E.GL.run rfl rfl rfl (E.Runs.move rfl rfl) ?_
    refine E.GL.run rfl rfl rfl (E.Runs.move rfl rfl) ?_
    refine E.GL.run rfl rfl rfl (E.Runs.move rfl rfl) ?_
    refine E.GL.run rfl rfl rfl (E.Runs.eql rfl rfl rfl (decide_eq_true rfl)) ?_
    refine E.GL.run rfl rfl rfl (E.Runs.pick_t rfl rfl rfl) ?_
    refine E.GL.run rfl rfl rfl (E.Runs.move rfl rfl) ?_
    refine E.GL.st rfl rfl rfl (E.ST.call rfl ent14 E.evn ((works_calls _).mono ?_))
    rintro e w38 ⟨rfl, l38⟩
    refine ⟨_, rfl, ?_⟩
    replace b3 := blk_below b3 l38
    replace b5 := blk_below b5 l38
    replace L := below_step L l38
    replace lo := below_step lo l38
    refine E.GL.run rfl rfl rfl (E.Runs.pick_t rfl rfl rfl) ?_
    refine E.GL.run rfl rfl rfl (E.Runs.assign rfl rfl) ?_
    refine E.GL.done ?_
    refine E.QG.code ?_
    refine E.CG.ret ?_
    exact E.QG.result rfl rfl ⟨rfl, L⟩

end Go.Proofs.Ythdbkhdiaehblaa.T
