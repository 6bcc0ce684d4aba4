/- TurnLast: one more show; the walk. -/
import Derived.Test.YthdbkhdiaehblaaT39
import Derived.Test.YthdbkhdiaehblaaT37
namespace Go.Proofs.Ythdbkhdiaehblaa.T
open Go.RowKit Go.Proofs.YthdbkhdiaehblaaW.PrintWords Go.Proofs.YthdbkhdiaehblaaW.PrintMore
open Go.Proofs.Ythdbkhdiaehblaa.P
set_option linter.unusedVariables false
set_option linter.unusedSimpArgs false

theorem nextFrom_spec (H : Hs) (l : List S36) (s : S36) : ∀ (k : Nat) (n : Int),
    (∃ m : Int, n ≤ m ∧ m < n + k ∧ nextFrom H l s k n = (m, 0) ∧ NextOk H l s m ∧ ∀ i : Int, n ≤ i → i < m → ¬ NextOk H l s i) ∨ (nextFrom H l s k n = (0, 3) ∧ ∀ i : Int, n ≤ i → i < n + k → ¬ NextOk H l s i)
  | 0, n => .inr ⟨rfl, fun i h1 h2 => by omega⟩
  | k + 1, n => by
    by_cases h : NextOk H l s n
    · exact .inl ⟨n, Int.le_refl _, by omega, by simp only [nextFrom, if_pos h], h, fun i h1 h2 => by omega⟩
    · have h0 : nextFrom H l s (k + 1) n = nextFrom H l s k (n + 1) := by simp only [nextFrom, if_neg h]
      rcases nextFrom_spec H l s k (n + 1) with ⟨m, h1, h2, h3, h4, h5⟩ | ⟨h1, h2⟩
      · refine .inl ⟨m, by omega, by omega, h0.trans h3, h4, fun i hi him => ?_⟩
        by_cases hin : i = n
        · subst hin; exact h
        · exact h5 i (by omega) him
      · refine .inr ⟨h0.trans h1, fun i hi him => ?_⟩
        by_cases hin : i = n
        · subst hin; exact h
        · exact h2 i (by omega) (by omega)
theorem moments_prefix {H : Hs} {l : List S36} {z : S36} {i : Nat} (hi : i < l.length) : (moments H (l ++ [z]))[i]? = (moments H l)[i]? := by
  unfold moments
  rw [allT_snoc, allT_snoc, List.getElem?_zipWith, List.getElem?_zipWith, List.getElem?_append_left (by rw [allT_length]; exact hi), List.getElem?_append_left (by rw [allT_length]; exact hi)]
/-- One more slot, told: when its show starts. -/
theorem last_told {H : Hs} {l : List S36} {z : S36} (V : Valid H (l ++ [z])) : ∃ t u, Told H (l ++ [z]) l.length z t u ∧ z.f1 ≤ t.start ∧ t.start ≤ u.start ∧ startOf H l z = u.start ∧ u.start ≤ 100000 := by
  have hz : (l ++ [z])[l.length]? = some z := by simp
  obtain ⟨t, u, T⟩ := told V.1 (valid_slots V) hz
  have hu : (lateDay H (l ++ [z]))[l.length]? = some u := by rw [lateDay, allL_is V.1 (valid_slots V)]; exact T.tl
  exact ⟨t, u, T, T.fe.bs, T.p.s, startOf_is hu, (late_bound V hz hu).2.2⟩
theorem mom_start {w : World} {ad : Addr} {k : Nat} {t u : Tm} (h : MomAt w ad k t u) (j : Nat) (v : Value) (hv : ([.int .i64 t.start, .int .i64 u.start] : List Value)[j]? = some v) : w.cell? ((E.onA (ad.add (k * 10)) 4).add j) = some v := by
  rcases j with _ | _ | j
  · cases hv; exact h.c4
  · cases hv; exact h.c5
  · simp at hv
theorem info38s : (Try.prog.info? 38).map (·.size) = some 7 := by kernel_rfl

theorem next_some (H : Hs) (l : List S36) (s : S36) (n : Int) (A1 : Option Addr) (c1 : Nat) (w : World) (V : Valid H l) (hs : SlotOk H s) (hlt : l.length < 12) (hN : nextFrom H l s 2001 0 = (n, 0)) (hr : Kd.C k36 w A1 l.length l) (hc : l.length ≤ c1) :
    Calls Try.prog 17 #[hv H, .slice A1 l.length c1, sv s] w fun e w' => e = .returned (.tuple #[.int .i64 n, .int .i64 0]) ∧ Below w.heap.size w w' := by
  have := next_ok H l s A1 c1 w V hs hlt hr hc
  rw [hN] at this
  exact this
theorem next_none (H : Hs) (l : List S36) (s : S36) (A1 : Option Addr) (c1 : Nat) (w : World) (V : Valid H l) (hs : SlotOk H s) (hlt : l.length < 12) (hN : nextFrom H l s 2001 0 = (0, 3)) (hr : Kd.C k36 w A1 l.length l) (hc : l.length ≤ c1) :
    Calls Try.prog 17 #[hv H, .slice A1 l.length c1, sv s] w fun e w' => e = .returned (.tuple #[.int .i64 0, .int .i64 3]) ∧ Below w.heap.size w w' := by
  have := next_ok H l s A1 c1 w V hs hlt hr hc
  rw [hN] at this
  exact this
set_option maxRecDepth 100000 in
set_option maxHeartbeats 8000000 in

theorem last_law (H : Hs) (l : List S36) (s : S36) (e : Int) (A1 : Option Addr) (c1 : Nat) (w : World) (hr : Kd.C k36 w A1 l.length l) (hc : l.length ≤ c1) :
    Calls Try.prog 4 #[hv H, .slice A1 l.length c1, .agg #[.int .i64 s.f0, .int .i64 s.f1, .int .i64 s.f2.f0, .int .i64 s.f2.f1, .int .i64 s.f3, .int .i64 s.f4, .int .i64 e]] w fun x w' => x = .returned (.bool true) ∧ Below w.heap.size w w' := by
  have hu3 := Try.underlying3
  have hu23 := Try.underlying23
  have hu25 := Try.underlying25
  have hu26 := Try.underlying26
  have hu29 := Try.underlying29
  have hu34 := Try.underlying34
  have hu36 := Try.underlying36
  have hu38 := Try.underlying38
  obtain ⟨z3, o3⟩ := info_some info3s (by decide)
  obtain ⟨z23, o23⟩ := info_some info23s (by decide)
  obtain ⟨z34, o34⟩ := info_some info34s (by decide)
  obtain ⟨z36, o36⟩ := info_some info36s (by decide)
  refine E.enter (N := 180) Try.func4 rfl Try.ntmps4 (args := [hv H, .slice A1 l.length c1, .agg #[.int .i64 s.f0, .int .i64 s.f1, .int .i64 s.f2.f0, .int .i64 s.f2.f1, .int .i64 s.f3, .int .i64 s.f4, .int .i64 e]]) (by simp) ?_
  have L := Below.refl w.heap.size w
  refine E.CG.seq ?_
  refine E.CG.list ?_
  refine E.GL.st rfl rfl rfl (E.ST.box rfl rfl fun g3 w3 e3 b3 l3 => ?_)
  have h3_L : w.heap.size ≤ g3 := by rw [e3]; exact L.size
  replace L := below_step L l3
  refine E.GL.st rfl rfl rfl (E.ST.box rfl rfl fun g5 w5 e5 b5 l5 => ?_)
  have h5_L : w.heap.size ≤ g5 := by rw [e5]; exact L.size
  have n5_b3 : g3 ≠ g5 := by have := blk_lt b3; omega
  replace b3 := blk_below b3 l5
  replace L := below_step L l5
  refine E.GL.run rfl rfl rfl (E.Runs.assign rfl rfl) ?_
  refine E.GL.done ?_
  refine E.QG.code ?_
  refine E.CG.seq ?_
  refine E.CG.heldH (none) (by kernel_rfl) fun v1 lD hh => ?_
  replace b3 := blk_below b3 lD
  replace b5 := blk_below b5 lD
  replace L := below_step L lD
  clear lD
  have s_b3 := b3
  have s_b5 := b5
  have s_L := L
  refine E.GH.take (i := 0) rfl (by kernel_rfl) (by kernel_rfl) (by kernel_rfl) (by intro c a d v w h; cases d <;> exact h) rfl rfl rfl (fun w' hS => (E.Runs.fieldAddr rfl rfl hu38 rfl (by assumption) rfl)) ?_
  refine E.GH.take (i := 1) rfl (by kernel_rfl) (by kernel_rfl) (by kernel_rfl) (by intro c a d v w h; cases d <;> exact h) rfl rfl rfl (fun w' hS => (E.Runs.loads (cs := [.int .i64 s.f0, .int .i64 s.f1, .int .i64 s.f2.f0, .int .i64 s.f2.f1, .int .i64 s.f3, .int .i64 s.f4]) rfl rfl hu36 rfl info36s (E.blks (blk_grown s_b5 hS E.nen) 0 rfl))) ?_
  refine E.GH.take (i := 2) rfl (by kernel_rfl) (by kernel_rfl) (by kernel_rfl) (by intro c a d v w h; cases d <;> exact h) rfl rfl rfl (fun w' hS => (E.Runs.fieldAddr rfl rfl hu38 rfl (by assumption) rfl)) ?_
  refine E.GH.take (i := 3) rfl (by kernel_rfl) (by kernel_rfl) (by kernel_rfl) (by intro c a d v w h; cases d <;> exact h) rfl rfl rfl (fun w' hS => (E.Runs.load rfl rfl hu3 (by first | exact E.keeps hS (E.blkc (by assumption) rfl) (by first | exact E.nen | exact E.nes (by assumption) | exact E.nes (Ne.symm (by assumption))) | exact pw_cell_below (below_step s_L (E.belowG hS)) (by assumption)))) ?_
  refine E.GH.one (i := 4) (by kernel_rfl) rfl ?_
  refine E.GO.st rfl rfl rfl (E.ST.alloc rfl info36z fun g7 w7 e7 b7 l7 => ⟨hh.trans (E.gbB l7), ?_⟩)
  have hh0 := hh
  replace hh := hh.trans (E.gbB l7)
  have h7_hh : v1.heap.size ≤ g7 := by rw [e7]; exact hh0.size
  have h7_L : w.heap.size ≤ g7 := by rw [e7]; exact L.size
  have n7_b3 : g3 ≠ g7 := by have := blk_lt b3; omega
  have n7_b5 : g5 ≠ g7 := by have := blk_lt b5; omega
  clear hh0
  replace b3 := blk_below b3 l7
  replace b5 := blk_below b5 l7
  replace L := below_step L l7
  refine E.GH.one (i := 5) (by kernel_rfl) rfl ?_
  refine E.GO.sn rfl rfl (E.ST.storeS (off := 0) (cells := [.int .i64 s.f0, .int .i64 s.f1, .int .i64 s.f2.f0, .int .i64 s.f2.f1, .int .i64 s.f3, .int .i64 s.f4]) rfl rfl rfl b7 rfl info36s (six_one _ _ _ _ _ _) rfl fun wS1_5 c7 lS1_5 => ⟨E.gb_own hh h7_hh lS1_5, ?_⟩)
  replace hh := E.gb_own hh h7_hh lS1_5
  replace b3 := blk_grown b3 lS1_5 (E.nes (by first | assumption | exact Ne.symm (by assumption)))
  replace b5 := blk_grown b5 lS1_5 (E.nes (by first | assumption | exact Ne.symm (by assumption)))
  replace L := E.below_own L h7_L lS1_5
  replace b7 := c7
  clear c7
  refine E.GH.take (i := 6) rfl (by kernel_rfl) (by kernel_rfl) (by kernel_rfl) (by intro c a d v w h; cases d <;> exact h) rfl rfl rfl (fun w' hS => (E.Runs.assign rfl rfl)) ?_
  refine E.GH.done (by kernel_rfl) ?_
  refine E.QG.code ?_
  refine E.CG.seq ?_
  refine E.CG.seq ?_
  refine E.CG.list ?_
  refine E.GL.run rfl rfl rfl (E.Runs.loads (cs := [.int .i64 H.teams, .int .i64 H.walk, .int .i64 H.early, .int .i64 H.foyer, .int .i64 H.dl, .int .i64 H.dh, .int .i64 H.cl, .int .i64 H.ch]) rfl rfl hu25 rfl info25s (blk_cells b3)) ?_
  refine E.GL.run rfl rfl rfl (E.Runs.move rfl rfl) ?_
  by_cases h26 : Valid H l
  · have hn12 := h26.2.1
    refine E.GL.st rfl rfl rfl (E.ST.call rfl ent13 (E.evc rfl (E.evc rfl E.evn)) ((valid_row H l A1 c1 _ true (iff_of_true rfl h26) (Kd.C_below hr L) hc).mono ?_))
    rintro e w26 ⟨rfl, l26⟩
    refine ⟨_, rfl, ?_⟩
    replace b3 := blk_below b3 l26
    replace b5 := blk_below b5 l26
    replace b7 := blk_below b7 l26
    replace L := below_step L l26
    refine E.GL.run rfl rfl rfl (E.Runs.not rfl rfl) ?_
    refine E.GL.run rfl rfl rfl (E.Runs.move rfl rfl) ?_
    refine E.GL.run rfl rfl rfl (E.Runs.loads (cs := [.int .i64 H.teams, .int .i64 H.walk, .int .i64 H.early, .int .i64 H.foyer, .int .i64 H.dl, .int .i64 H.dh, .int .i64 H.cl, .int .i64 H.ch]) rfl rfl hu25 rfl info25s (blk_cells b3)) ?_
    refine E.GL.run rfl rfl rfl (E.Runs.loads (cs := [.int .i64 s.f0, .int .i64 s.f1, .int .i64 s.f2.f0, .int .i64 s.f2.f1, .int .i64 s.f3, .int .i64 s.f4]) rfl rfl hu36 rfl info36s (blk_cells b7)) ?_
    by_cases h31 : SlotOk H s
    · refine E.GL.st rfl rfl rfl (E.ST.call rfl ent16 (E.evc rfl (E.evc rfl E.evn)) ((slot_r H s true (iff_of_true rfl h31) h26.1 _).mono ?_))
      rintro e w31 ⟨rfl, l31⟩
      refine ⟨_, rfl, ?_⟩
      replace b3 := blk_below b3 l31
      replace b5 := blk_below b5 l31
      replace b7 := blk_below b7 l31
      replace L := below_step L l31
      refine E.GL.run rfl rfl rfl (E.Runs.not rfl rfl) ?_
      refine E.GL.run rfl rfl rfl (E.Runs.pick_f rfl rfl rfl) ?_
      refine E.GL.run rfl rfl rfl (E.Runs.move rfl rfl) ?_
      refine E.GL.run rfl rfl rfl (E.Runs.move rfl rfl) ?_
      refine E.GL.run rfl rfl rfl (E.Runs.len rfl rfl hu26) ?_
      refine E.GL.cmp rfl rfl rfl (fun _ h => (E.Runs.geq rfl rfl rfl h)) (fun h37 => ?_) (fun h37 => ?_)
      · refine E.GL.run rfl rfl rfl (E.Runs.pick_f rfl rfl rfl) ?_
        refine E.GL.done ?_
        refine E.QG.code ?_
        refine E.CG.cond_t rfl ?_
        refine E.CG.seq ?_
        refine E.CG.list ?_
        refine E.GL.st rfl rfl rfl (E.ST.call rfl ent14 E.evn ((works_calls _).mono ?_))
        rintro e w39 ⟨rfl, l39⟩
        refine ⟨_, rfl, ?_⟩
        replace b3 := blk_below b3 l39
        replace b5 := blk_below b5 l39
        replace b7 := blk_below b7 l39
        replace L := below_step L l39
        refine E.GL.run rfl rfl rfl (E.Runs.assign rfl rfl) ?_
        refine E.GL.done ?_
        refine E.QG.code ?_
        refine E.CG.ret ?_
        refine E.QG.pass_ret ?_
        exact E.QG.result rfl rfl ⟨rfl, L⟩
      · have hlt : l.length < 12 := by omega
        refine E.GL.run rfl rfl rfl (E.Runs.pick_f rfl rfl rfl) ?_
        refine E.GL.done ?_
        refine E.QG.code ?_
        refine E.CG.cond_f rfl ?_
        refine E.CG.skip ?_
        refine E.QG.code ?_
        refine E.CG.seq ?_
        refine E.CG.list ?_
        refine E.GL.run rfl rfl rfl (E.Runs.loads (cs := [.int .i64 H.teams, .int .i64 H.walk, .int .i64 H.early, .int .i64 H.foyer, .int .i64 H.dl, .int .i64 H.dh, .int .i64 H.cl, .int .i64 H.ch]) rfl rfl hu25 rfl info25s (blk_cells b3)) ?_
        refine E.GL.run rfl rfl rfl (E.Runs.move rfl rfl) ?_
        refine E.GL.run rfl rfl rfl (E.Runs.loads (cs := [.int .i64 s.f0, .int .i64 s.f1, .int .i64 s.f2.f0, .int .i64 s.f2.f1, .int .i64 s.f3, .int .i64 s.f4]) rfl rfl hu36 rfl info36s (blk_cells b7)) ?_
        rcases nextFrom_spec H l s 2001 0 with ⟨n, n0, n1, hN, hok, hno⟩ | ⟨hN, hno⟩
        · refine E.GL.st rfl rfl rfl (E.ST.call rfl ent17 (E.evc rfl (E.evc rfl (E.evc rfl E.evn))) ((next_some H l s n A1 c1 _ h26 h31 hlt hN (Kd.C_below hr L) hc).mono ?_))
          rintro e w44 ⟨rfl, l44⟩
          refine ⟨_, rfl, ?_⟩
          replace b3 := blk_below b3 l44
          replace b5 := blk_below b5 l44
          replace b7 := blk_below b7 l44
          replace L := below_step L l44
          refine E.GL.run rfl rfl rfl (E.Runs.move rfl rfl) ?_
          refine E.GL.run rfl rfl rfl (E.Runs.extract rfl rfl rfl) ?_
          refine E.GL.run rfl rfl rfl (E.Runs.extract rfl rfl rfl) ?_
          refine E.GL.run rfl rfl rfl (E.Runs.assign rfl rfl) ?_
          refine E.GL.run rfl rfl rfl (E.Runs.assign rfl rfl) ?_
          refine E.GL.done ?_
          refine E.QG.code ?_
          refine E.CG.seq ?_
          refine E.CG.seq ?_
          refine E.CG.list ?_
          refine E.GL.run rfl rfl rfl (E.Runs.move rfl rfl) ?_
          refine E.GL.run rfl rfl rfl (E.Runs.neq rfl rfl rfl (E.ne_f rfl)) ?_
          refine E.GL.run rfl rfl rfl (E.Runs.move rfl rfl) ?_
          refine E.GL.skip rfl rfl rfl ?_
          refine E.GL.skip rfl rfl rfl ?_
          refine E.GL.run rfl rfl rfl (E.Runs.pick_f rfl rfl rfl) ?_
          refine E.GL.done ?_
          refine E.QG.code ?_
          refine E.CG.cond_f rfl ?_
          refine E.CG.skip ?_
          refine E.QG.code ?_
          refine E.CG.seq ?_
          refine E.CG.list ?_
          refine E.GL.run rfl rfl rfl (E.Runs.loads (cs := [.int .i64 H.teams, .int .i64 H.walk, .int .i64 H.early, .int .i64 H.foyer, .int .i64 H.dl, .int .i64 H.dh, .int .i64 H.cl, .int .i64 H.ch]) rfl rfl hu25 rfl info25s (blk_cells b3)) ?_
          refine E.GL.run rfl rfl rfl (E.Runs.move rfl rfl) ?_
          have s_56 := L
          refine E.GL.st rfl rfl rfl (E.ST.call rfl ent15 (E.evc rfl (E.evc rfl E.evn)) ((times_calls H l A1 c1 _ h26 (Kd.C_below hr L) hc).mono ?_))
          rintro e w56 ⟨v56, rfl, R56, l56⟩
          refine ⟨_, rfl, ?_⟩
          replace b3 := blk_below b3 l56
          replace b5 := blk_below b5 l56
          replace b7 := blk_below b7 l56
          replace L := below_step L l56
          obtain ⟨Am, cm, h56⟩ := Kd.R_slice R56
          rw [moments_length] at h56
          subst h56
          replace R56 := Kd.R_lower R56 s_56.size
          have n7_R56 := Kd.R_ne R56 b7 (by decide)
          refine E.GL.run rfl rfl rfl (E.Runs.move rfl rfl) ?_
          refine E.GL.run rfl rfl rfl (E.Runs.extract rfl rfl rfl) ?_
          refine E.GL.run rfl rfl rfl (E.Runs.extract rfl rfl rfl) ?_
          refine E.GL.run rfl rfl rfl (E.Runs.assign rfl rfl) ?_
          refine E.GL.run rfl rfl rfl (E.Runs.assign rfl rfl) ?_
          refine E.GL.done ?_
          refine E.QG.code ?_
          refine E.CG.seq ?_
          refine E.CG.seq ?_
          refine E.CG.list ?_
          refine E.GL.run rfl rfl rfl (E.Runs.move rfl rfl) ?_
          refine E.GL.run rfl rfl rfl (E.Runs.neq rfl rfl rfl (E.ne_f rfl)) ?_
          refine E.GL.run rfl rfl rfl (E.Runs.move rfl rfl) ?_
          refine E.GL.run rfl rfl rfl (E.Runs.move rfl rfl) ?_
          refine E.GL.run rfl rfl rfl (E.Runs.len rfl rfl hu29) ?_
          refine E.GL.run rfl rfl rfl (E.Runs.move rfl rfl) ?_
          refine E.GL.run rfl rfl rfl (E.Runs.len rfl rfl hu26) ?_
          refine E.GL.run rfl rfl rfl (E.Runs.neq rfl rfl rfl (E.ne_f rfl)) ?_
          refine E.GL.run rfl rfl rfl (E.Runs.pick_f rfl rfl rfl) ?_
          refine E.GL.done ?_
          refine E.QG.code ?_
          refine E.CG.cond_f rfl ?_
          refine E.CG.skip ?_
          refine E.QG.code ?_
          refine E.CG.seq ?_
          refine E.CG.seq ?_
          refine E.CG.list ?_
          refine E.GL.run rfl rfl rfl (E.Runs.move rfl rfl) ?_
          refine E.GL.run rfl rfl rfl (E.Runs.eql rfl rfl rfl (decide_eq_true rfl)) ?_
          refine E.GL.done ?_
          refine E.QG.code ?_
          refine E.CG.cond_t rfl ?_
          refine E.CG.seq ?_
          refine E.CG.list ?_
          refine E.GL.run rfl rfl rfl (E.Runs.move rfl rfl) ?_
          refine E.GL.run rfl rfl rfl (E.Runs.fieldAddr rfl rfl hu36 rfl (by assumption) rfl) ?_
          refine E.GL.sn rfl rfl (E.ST.store rfl (by assumption) (by assumption) rfl rfl b7 rfl (show _ = #[.int .i64 s.f0, .int .i64 n, .int .i64 s.f2.f0, .int .i64 s.f2.f1, .int .i64 s.f3, .int .i64 s.f4] from rfl) fun wS11_2 c7 lS11_2 => ?_)
          replace b3 := blk_grown b3 lS11_2 (E.nes (by first | assumption | exact Ne.symm (by assumption)))
          replace b5 := blk_grown b5 lS11_2 (E.nes (by first | assumption | exact Ne.symm (by assumption)))
          replace R56 := Kd.R_grown1 R56 rfl lS11_2 (by assumption)
          replace L := E.below_own L h7_L lS11_2
          replace b7 := c7
          clear c7
          refine E.GL.done ?_
          refine E.QG.code ?_
          refine E.CG.seq ?_
          refine E.CG.cut2 (fun (A : Option Addr) (c : Nat) => [(1, .slice A1 l.length c1), (3, .pointer (some ⟨g3, 0, none⟩)), (7, .pointer (some ⟨g7, 0, none⟩)), (8, .int .i64 e), (9, .int .i64 n), (10, .int .i64 0), (11, .slice Am l.length cm), (13, .slice A (l ++ [withB s n]).length c)]) (fun A c w' => Kd.C k36 w' A (l ++ [withB s n]).length (l ++ [withB s n]) ∧ (l ++ [withB s n]).length ≤ c ∧ w'.heap[g3]? = some (.cells #[.int .i64 H.teams, .int .i64 H.walk, .int .i64 H.early, .int .i64 H.foyer, .int .i64 H.dl, .int .i64 H.dh, .int .i64 H.cl, .int .i64 H.ch] 25 (0, 0)) ∧ w'.heap[g7]? = some (.cells #[.int .i64 s.f0, .int .i64 n, .int .i64 s.f2.f0, .int .i64 s.f2.f1, .int .i64 s.f3, .int .i64 s.f4] 36 (0, 0)) ∧ Kd.R k34 34 w' w.heap.size (fun _ => True) (.slice Am l.length cm) (moments H l) ∧ Below w.heap.size w w') ?_ ?_
          · refine E.CG.heldH (none) (by kernel_rfl) fun v10 lD hh => ?_
            replace b3 := blk_below b3 lD
            replace b7 := blk_below b7 lD
            replace L := below_step L lD
            replace R56 := Kd.R_below R56 lD
            clear lD
            have LV := Below.refl v10.heap.size v10
            refine E.GH.take (i := 0) rfl (by kernel_rfl) (by kernel_rfl) (by kernel_rfl) E.calm_cut2 rfl rfl rfl (fun w' hS => (E.Runs.move rfl rfl)) ?_
            refine E.GH.take (i := 2) rfl (by kernel_rfl) (by kernel_rfl) (by kernel_rfl) E.calm_cut2 rfl rfl rfl (fun w' hS => (E.Runs.loads (cs := [.int .i64 s.f0, .int .i64 n, .int .i64 s.f2.f0, .int .i64 s.f2.f1, .int .i64 s.f3, .int .i64 s.f4]) rfl rfl hu36 rfl info36s (blk_cells (blk_grown b7 hS E.nen)))) ?_
            refine E.GH.all (rs := [1, 3]) (by kernel_rfl) (by simp) (E.GHs.cons rfl ?_ (E.GHs.cons rfl ?_ E.GHs.nil))
            · refine E.GO.st rfl rfl rfl (E.ST.call rfl ent18 (E.evc rfl E.evn) ((copied_own l A1 c1 _ (by omega) (Kd.C_below hr (below_step L LV)) hc).mono ?_))
              rintro x wc ⟨u, rfl, R, lc⟩
              refine ⟨_, rfl, hh.trans (E.gbB lc), ?_⟩
              replace hh := hh.trans (E.gbB lc)
              replace R := Kd.R_lower R LV.size
              replace LV := below_step LV lc
              refine E.GH.one (i := 3) (by kernel_rfl) rfl ?_
              refine E.GO.st rfl rfl rfl (E.ST.litB rfl (E.epc rfl E.epn) (lit36one (withB s n)) fun gl wl el bl ll => ⟨hh.trans (E.gbB ll), ?_⟩)
              replace hh := hh.trans (E.gbB ll)
              replace R := Kd.R_below R ll
              replace LV := below_step LV ll
              refine E.GH.one (i := 4) (by kernel_rfl) rfl ?_
              refine E.GO.st rfl rfl rfl (E.ST.appendAt k36 v10.heap.size (w0 := v10) (s := .tmp 73) (x := .tmp 75) rfl hu26 info36 rfl (by decide) (by decide) rfl rfl R (C_one (withB s n) bl) k36_made LV LV.size (by omega) fun ua wa ra ka ga aa => ⟨E.gb_row hh ga (Kd.R_base R), ?_⟩)
              replace hh := E.gb_row hh ga (Kd.R_base R)
              replace R := ra
              refine E.GH.take (i := 5) rfl (by kernel_rfl) (by kernel_rfl) (by kernel_rfl) E.calm_cut2 rfl rfl rfl (fun w' hS => (E.Runs.assign rfl rfl)) ?_
              obtain ⟨A10, c10, h10⟩ := Kd.R_slice R
              subst h10
              obtain ⟨_, hq2, hq3⟩ := Kd.R_reads' R
              have BB := E.belowG hh
              refine E.GH.done (by kernel_rfl) ?_
              exact E.QG.meet2 _ _ (E.subc rfl (E.subc rfl (E.subc rfl (E.subc rfl (E.subc rfl (E.subc rfl (E.subc rfl (E.subc rfl (E.subn))))))))) ⟨hq3, hq2, blk_below b3 BB, blk_below b7 BB, Kd.R_below R56 BB, below_step L BB⟩
            · refine E.GO.st rfl rfl rfl (E.ST.litB rfl (E.epc rfl E.epn) (lit36one (withB s n)) fun gl wl el bl ll => ⟨hh.trans (E.gbB ll), ?_⟩)
              replace hh := hh.trans (E.gbB ll)
              replace LV := below_step LV ll
              refine E.GH.one (i := 1) (by kernel_rfl) rfl ?_
              refine E.GO.st rfl rfl rfl (E.ST.call rfl ent18 (E.evc rfl E.evn) ((copied_own l A1 c1 _ (by omega) (Kd.C_below hr (below_step L LV)) hc).mono ?_))
              rintro x wc ⟨u, rfl, R, lc⟩
              refine ⟨_, rfl, hh.trans (E.gbB lc), ?_⟩
              replace hh := hh.trans (E.gbB lc)
              replace R := Kd.R_lower R LV.size
              replace bl := blk_below bl lc
              replace LV := below_step LV lc
              refine E.GH.one (i := 4) (by kernel_rfl) rfl ?_
              refine E.GO.st rfl rfl rfl (E.ST.appendAt k36 v10.heap.size (w0 := v10) (s := .tmp 73) (x := .tmp 75) rfl hu26 info36 rfl (by decide) (by decide) rfl rfl R (C_one (withB s n) bl) k36_made LV LV.size (by omega) fun ua wa ra ka ga aa => ⟨E.gb_row hh ga (Kd.R_base R), ?_⟩)
              replace hh := E.gb_row hh ga (Kd.R_base R)
              replace R := ra
              refine E.GH.take (i := 5) rfl (by kernel_rfl) (by kernel_rfl) (by kernel_rfl) E.calm_cut2 rfl rfl rfl (fun w' hS => (E.Runs.assign rfl rfl)) ?_
              obtain ⟨A10, c10, h10⟩ := Kd.R_slice R
              subst h10
              obtain ⟨_, hq2, hq3⟩ := Kd.R_reads' R
              have BB := E.belowG hh
              refine E.GH.done (by kernel_rfl) ?_
              exact E.QG.meet2 _ _ (E.subc rfl (E.subc rfl (E.subc rfl (E.subc rfl (E.subc rfl (E.subc rfl (E.subc rfl (E.subc rfl (E.subn))))))))) ⟨hq3, hq2, blk_below b3 BB, blk_below b7 BB, Kd.R_below R56 BB, below_step L BB⟩
          clear b3 b7 L R56
          intro Aa ca wa ⟨Ca, hca, b3, b7, R56, L⟩
          have la := Below.refl wa.heap.size wa
          have hlsa : (l ++ [withB s n]).length = l.length + 1 := by simp
          have Vn := (valid_snoc (z := withB s n) h26 hlt h31).mpr hok.1
          have hEn := (checkE_valid H _).mpr Vn
          obtain ⟨t, u, TO, t1, t2, t3, t4⟩ := last_told Vn
          have hun : u.start = n := by rw [← t3]; exact hok.2
          have htn : t.start = n := by have t5 : n ≤ t.start := t1; omega
          have hll : (l.length : Int) < ((l ++ [withB s n]).length : Int) := by omega
          refine E.QG.code ?_
          refine E.CG.seq ?_
          refine E.CG.seq ?_
          refine E.CG.list ?_
          refine E.GL.run rfl rfl rfl (E.Runs.loads (cs := [.int .i64 H.teams, .int .i64 H.walk, .int .i64 H.early, .int .i64 H.foyer, .int .i64 H.dl, .int .i64 H.dh, .int .i64 H.cl, .int .i64 H.ch]) rfl rfl hu25 rfl info25s (blk_cells b3)) ?_
          refine E.GL.run rfl rfl rfl (E.Runs.move rfl rfl) ?_
          refine E.GL.st rfl rfl rfl (E.ST.call rfl ent19 (E.evc rfl (E.evc rfl E.evn)) ((check_ref H (l ++ [withB s n]) Aa ca _ (by omega) (Kd.C_below Ca la) hca).mono ?_))
          rintro e w79 ⟨rfl, l79⟩
          refine ⟨_, rfl, ?_⟩
          replace b3 := blk_below b3 l79
          replace b7 := blk_below b7 l79
          replace R56 := Kd.R_below R56 l79
          replace L := below_step L l79
          replace la := below_step la l79
          rw [hEn]
          refine E.GL.run rfl rfl rfl (E.Runs.neq rfl rfl rfl (E.ne_f rfl)) ?_
          refine E.GL.done ?_
          refine E.QG.code ?_
          refine E.CG.cond_f rfl ?_
          refine E.CG.skip ?_
          refine E.QG.code ?_
          refine E.CG.seq ?_
          refine E.CG.list ?_
          refine E.GL.run rfl rfl rfl (E.Runs.loads (cs := [.int .i64 H.teams, .int .i64 H.walk, .int .i64 H.early, .int .i64 H.foyer, .int .i64 H.dl, .int .i64 H.dh, .int .i64 H.cl, .int .i64 H.ch]) rfl rfl hu25 rfl info25s (blk_cells b3)) ?_
          refine E.GL.run rfl rfl rfl (E.Runs.move rfl rfl) ?_
          refine E.GL.st rfl rfl rfl (E.ST.call rfl ent15 (E.evc rfl (E.evc rfl E.evn)) ((times_reads H (l ++ [withB s n]) Aa ca _ Vn (Kd.C_below Ca la) hca).mono ?_))
          rintro e w84 ⟨Ab, cb, rfl, kb, l84⟩
          refine ⟨_, rfl, ?_⟩
          replace b3 := blk_below b3 l84
          replace b7 := blk_below b7 l84
          replace R56 := Kd.R_below R56 l84
          replace L := below_step L l84
          replace la := below_step la l84
          have lb := Below.refl w84.heap.size w84
          obtain ⟨am, eM, M⟩ := mom_at kb TO (by omega)
          have sp := mom_start M
          rw [htn, hun] at sp
          refine E.GL.run rfl rfl rfl (E.Runs.move rfl rfl) ?_
          refine E.GL.run rfl rfl rfl (E.Runs.extract rfl rfl rfl) ?_
          refine E.GL.run rfl rfl rfl (E.Runs.extract rfl rfl rfl) ?_
          refine E.GL.run rfl rfl rfl (E.Runs.assign rfl rfl) ?_
          refine E.GL.run rfl rfl rfl (E.Runs.assign rfl rfl) ?_
          refine E.GL.done ?_
          refine E.QG.code ?_
          refine E.CG.seq ?_
          refine E.CG.seq ?_
          refine E.CG.list ?_
          refine E.GL.run rfl rfl rfl (E.Runs.move rfl rfl) ?_
          refine E.GL.run rfl rfl rfl (E.Runs.neq rfl rfl rfl (E.ne_f rfl)) ?_
          refine E.GL.run rfl rfl rfl (E.Runs.move rfl rfl) ?_
          refine E.GL.run rfl rfl rfl (E.Runs.move rfl rfl) ?_
          refine E.GL.run rfl rfl rfl (E.Runs.len rfl rfl hu29) ?_
          refine E.GL.run rfl rfl rfl (E.Runs.move rfl rfl) ?_
          refine E.GL.run rfl rfl rfl (E.Runs.len rfl rfl hu26) ?_
          refine E.GL.run rfl rfl rfl (E.Runs.neq rfl rfl rfl (E.ne_f rfl)) ?_
          refine E.GL.run rfl rfl rfl (E.Runs.pick_f rfl rfl rfl) ?_
          refine E.GL.run rfl rfl rfl (E.Runs.move rfl rfl) ?_
          refine E.GL.run rfl rfl rfl (E.Runs.move rfl rfl) ?_
          refine E.GL.run rfl rfl rfl (E.Runs.move rfl rfl) ?_
          refine E.GL.run rfl rfl rfl (E.Runs.len rfl rfl hu26) ?_
          refine E.GL.run rfl rfl rfl (E.Runs.indexAddrA rfl rfl rfl hu29 (by assumption) (by assumption) (by assumption) (by first | rfl | assumption) rfl) ?_
          refine E.GL.run rfl rfl rfl (E.Runs.fieldAddr rfl rfl hu34 rfl (by assumption) rfl) ?_
          refine E.GL.run rfl rfl rfl (E.Runs.loads (cs := [.int .i64 n, .int .i64 n]) rfl rfl hu23 rfl info23s sp) ?_
          refine E.GL.run rfl rfl rfl (E.Runs.move rfl rfl) ?_
          refine E.GL.run rfl rfl rfl (E.Runs.move rfl rfl) ?_
          refine E.GL.run rfl rfl rfl (E.Runs.build rfl (E.epc rfl (E.epc rfl E.epn)) (build23 _ _)) ?_
          refine E.GL.run rfl rfl rfl (E.Runs.neqv rfl rfl rfl rfl (fun _ _ W => run_eqGuard_agg W _ _ _ _ _ _ Try.eqGuardType23) (equal23 n n) rfl) ?_
          refine E.GL.run rfl rfl rfl (E.Runs.pick_f rfl rfl rfl) ?_
          refine E.GL.done ?_
          refine E.QG.code ?_
          refine E.CG.cond_f rfl ?_
          refine E.CG.skip ?_
          refine E.QG.code ?_
          refine E.CG.seq ?_
          refine E.CG.list ?_
          refine E.GL.run rfl rfl rfl (E.Runs.assign rfl rfl) ?_
          refine E.GL.done ?_
          refine E.QG.code ?_
          refine E.CG.block ?_
          have s19_b3 := b3
          have s19_b7 := b7
          have s19_L := L
          have s19_la := la
          have s19_lb := lb
          refine E.CG.loop (fun (i : Nat) => [(1, .slice A1 l.length c1), (3, .pointer (some ⟨g3, 0, none⟩)), (7, .pointer (some ⟨g7, 0, none⟩)), (8, .int .i64 e), (9, .int .i64 n), (10, .int .i64 0), (11, .slice Am l.length cm), (14, .slice Ab (l ++ [withB s n]).length cb), (16, .int .i64 i)]) (fun i w' => i ≤ l.length ∧ Below w84.heap.size w84 w' ∧ Kd.R k34 34 w' w.heap.size (fun _ => True) (.slice Am l.length cm) (moments H l)) (fun i => l.length - i) 0 (E.subc rfl (E.subc rfl (E.subc rfl (E.subc rfl (E.subc rfl (E.subc rfl (E.subc rfl (E.subc rfl (E.subc rfl (E.subn)))))))))) ⟨Nat.zero_le _, Below.refl _ _, R56⟩ ?_
          rintro i w19 ⟨hi, lq, R56⟩
          replace b3 := blk_below b3 lq
          replace b7 := blk_below b7 lq
          replace L := below_step L lq
          replace la := below_step la lq
          replace lb := below_step lb lq
          refine E.CG.seq ?_
          refine E.CG.seq ?_
          refine E.CG.list ?_
          refine E.GL.run rfl rfl rfl (E.Runs.move rfl rfl) ?_
          refine E.GL.run rfl rfl rfl (E.Runs.move rfl rfl) ?_
          refine E.GL.run rfl rfl rfl (E.Runs.len rfl rfl hu26) ?_
          refine E.GL.cmp rfl rfl rfl (fun _ h => (E.Runs.lss rfl rfl rfl h)) (fun h111 => ?_) (fun h111 => ?_)
          · have hltk : i < l.length := by omega
            obtain ⟨x, hx⟩ : ∃ x, (moments H l)[i]? = some x := ⟨_, List.getElem?_eq_getElem (by rw [moments_length]; exact hltk)⟩
            have hx' : (moments H (l ++ [withB s n]))[i]? = some x := by rw [moments_prefix hltk]; exact hx
            obtain ⟨ax, eX, X⟩ := row34_at (Kd.R_reads' R56).2.2 hx
            obtain ⟨ay, eY, Y⟩ := row34_at (Kd.C_below kb lb) hx'
            have hib : (i : Int) < ((l ++ [withB s n]).length : Int) := by omega
            refine E.GL.done ?_
            refine E.QG.code ?_
            refine E.CG.cond_t rfl ?_
            refine E.CG.skip ?_
            refine E.QG.code ?_
            refine E.CG.seq ?_
            refine E.CG.block ?_
            refine E.CG.seq ?_
            refine E.CG.quietF (by kernel_rfl) rfl (by kernel_rfl) (by kernel_rfl) ?_
            refine E.GQ.run rfl rfl rfl (E.Runs.move rfl rfl) ?_
            refine E.GQ.run rfl rfl rfl (E.Runs.move rfl rfl) ?_
            refine E.GQ.run rfl rfl rfl (E.Runs.indexAddrA rfl rfl rfl hu29 (by assumption) (by assumption) (by assumption) (by first | rfl | assumption) rfl) ?_
            refine E.GQ.run rfl rfl rfl (E.Runs.loads (cs := [.int .i64 x.f0.f0, .int .i64 x.f0.f1, .int .i64 x.f1.f0, .int .i64 x.f1.f1, .int .i64 x.f2.f0, .int .i64 x.f2.f1, .int .i64 x.f3.f0, .int .i64 x.f3.f1, .int .i64 x.f4.f0, .int .i64 x.f4.f1]) rfl rfl hu34 rfl info34s X) ?_
            refine E.GQ.run rfl rfl rfl (E.Runs.move rfl rfl) ?_
            refine E.GQ.run rfl rfl rfl (E.Runs.move rfl rfl) ?_
            refine E.GQ.run rfl rfl rfl (E.Runs.indexAddrA rfl rfl rfl hu29 (by assumption) (by assumption) (by assumption) (by first | rfl | assumption) rfl) ?_
            refine E.GQ.run rfl rfl rfl (E.Runs.loads (cs := [.int .i64 x.f0.f0, .int .i64 x.f0.f1, .int .i64 x.f1.f0, .int .i64 x.f1.f1, .int .i64 x.f2.f0, .int .i64 x.f2.f1, .int .i64 x.f3.f0, .int .i64 x.f3.f1, .int .i64 x.f4.f0, .int .i64 x.f4.f1]) rfl rfl hu34 rfl info34s Y) ?_
            refine E.GQ.run rfl rfl rfl (E.Runs.neqv rfl rfl rfl rfl (fun _ _ W => run_eqGuard_agg W _ _ _ _ _ _ Try.eqGuardType34) (equal34 _ _ _ _ _ _ _ _ _ _) rfl) ?_
            refine E.GQ.doneB fun v21 lD => ?_
            replace b3 := blk_below b3 lD
            replace b7 := blk_below b7 lD
            replace R56 := Kd.R_below R56 lD
            replace L := below_step L lD
            replace la := below_step la lD
            replace lb := below_step lb lD
            replace lq := below_step lq lD
            clear lD
            refine E.QG.code ?_
            refine E.CG.cond_f rfl ?_
            refine E.CG.skip ?_
            refine E.QG.block_normal ?_
            refine E.QG.code ?_
            refine E.CG.list ?_
            refine E.GL.run rfl rfl rfl (E.Runs.move rfl rfl) ?_
            refine E.GL.run rfl rfl rfl (E.Runs.add rfl rfl rfl (IntWalk.i64_in _ (by omega))) ?_
            refine E.GL.run rfl rfl rfl (E.Runs.assign rfl rfl) ?_
            refine E.GL.done ?_
            exact E.QG.round (i + 1) (E.subc rfl (E.subc rfl (E.subc rfl (E.subc rfl (E.subc rfl (E.subc rfl (E.subc rfl (E.subc rfl (E.subc rfl E.subn))))))))) ⟨by omega, lq, R56⟩ (by omega)
          · refine E.GL.done ?_
            refine E.QG.code ?_
            refine E.CG.cond_f rfl ?_
            refine E.CG.exit ?_
            refine E.QG.pass_exit ?_
            refine E.QG.pass_exit ?_
            refine E.QG.block_here ?_
            refine E.QG.code ?_
            refine E.CG.seq ?_
            refine E.CG.seq ?_
            refine E.CG.list ?_
            refine E.GL.run rfl rfl rfl (E.Runs.move rfl rfl) ?_
            refine E.GL.cmp rfl rfl rfl (fun _ h => (E.Runs.lss rfl rfl rfl h)) (fun h124 => ?_) (fun h124 => ?_)
            · refine E.GL.run rfl rfl rfl (E.Runs.move rfl rfl) ?_
              refine E.GL.skip rfl rfl rfl ?_
              refine E.GL.skip rfl rfl rfl ?_
              refine E.GL.run rfl rfl rfl (E.Runs.pick_t rfl rfl rfl) ?_
              refine E.GL.run rfl rfl rfl (E.Runs.move rfl rfl) ?_
              refine E.GL.skip rfl rfl rfl ?_
              refine E.GL.skip rfl rfl rfl ?_
              refine E.GL.skip rfl rfl rfl ?_
              refine E.GL.skip rfl rfl rfl ?_
              refine E.GL.skip rfl rfl rfl ?_
              refine E.GL.skip rfl rfl rfl ?_
              refine E.GL.skip rfl rfl rfl ?_
              refine E.GL.run rfl rfl rfl (E.Runs.pick_t rfl rfl rfl) ?_
              refine E.GL.done ?_
              refine E.QG.code ?_
              refine E.CG.cond_t rfl ?_
              refine E.CG.seq ?_
              refine E.CG.list ?_
              refine E.GL.st rfl rfl rfl (E.ST.call rfl ent14 E.evn ((works_calls _).mono ?_))
              rintro e w138 ⟨rfl, l138⟩
              refine ⟨_, rfl, ?_⟩
              replace b3 := blk_below b3 l138
              replace b7 := blk_below b7 l138
              replace R56 := Kd.R_below R56 l138
              replace L := below_step L l138
              replace la := below_step la l138
              replace lb := below_step lb l138
              refine E.GL.run rfl rfl rfl (E.Runs.assign rfl rfl) ?_
              refine E.GL.done ?_
              refine E.QG.code ?_
              refine E.CG.ret ?_
              refine E.QG.pass_ret ?_
              exact E.QG.result rfl rfl ⟨rfl, L⟩
            · refine E.GL.run rfl rfl rfl (E.Runs.move rfl rfl) ?_
              refine E.GL.run rfl rfl rfl (E.Runs.move rfl rfl) ?_
              refine E.GL.cmp rfl rfl rfl (fun _ h => (E.Runs.gtr rfl rfl rfl h)) (fun h127 => ?_) (fun h127 => ?_)
              · refine E.GL.run rfl rfl rfl (E.Runs.pick_f rfl rfl rfl) ?_
                refine E.GL.run rfl rfl rfl (E.Runs.move rfl rfl) ?_
                refine E.GL.skip rfl rfl rfl ?_
                refine E.GL.skip rfl rfl rfl ?_
                refine E.GL.skip rfl rfl rfl ?_
                refine E.GL.skip rfl rfl rfl ?_
                refine E.GL.skip rfl rfl rfl ?_
                refine E.GL.skip rfl rfl rfl ?_
                refine E.GL.skip rfl rfl rfl ?_
                refine E.GL.run rfl rfl rfl (E.Runs.pick_t rfl rfl rfl) ?_
                refine E.GL.done ?_
                refine E.QG.code ?_
                refine E.CG.cond_t rfl ?_
                refine E.CG.seq ?_
                refine E.CG.list ?_
                refine E.GL.st rfl rfl rfl (E.ST.call rfl ent14 E.evn ((works_calls _).mono ?_))
                rintro e w138 ⟨rfl, l138⟩
                refine ⟨_, rfl, ?_⟩
                replace b3 := blk_below b3 l138
                replace b7 := blk_below b7 l138
                replace R56 := Kd.R_below R56 l138
                replace L := below_step L l138
                replace la := below_step la l138
                replace lb := below_step lb l138
                refine E.GL.run rfl rfl rfl (E.Runs.assign rfl rfl) ?_
                refine E.GL.done ?_
                refine E.QG.code ?_
                refine E.CG.ret ?_
                refine E.QG.pass_ret ?_
                exact E.QG.result rfl rfl ⟨rfl, L⟩
              · refine E.GL.run rfl rfl rfl (E.Runs.pick_f rfl rfl rfl) ?_
                refine E.GL.run rfl rfl rfl (E.Runs.move rfl rfl) ?_
                refine E.GL.run rfl rfl rfl (E.Runs.move rfl rfl) ?_
                refine E.GL.run rfl rfl rfl (E.Runs.eql rfl rfl rfl (decide_eq_true rfl)) ?_
                refine E.GL.run rfl rfl rfl (E.Runs.move rfl rfl) ?_
                refine E.GL.run rfl rfl rfl (E.Runs.move rfl rfl) ?_
                refine E.GL.run rfl rfl rfl (E.Runs.move rfl rfl) ?_
                refine E.GL.cmp rfl rfl rfl (fun _ h => (E.Runs.geq rfl rfl rfl h)) (fun h135 => ?_) (fun h135 => ?_)
                · refine E.GL.run rfl rfl rfl (E.Runs.pick_t rfl rfl rfl) ?_
                  refine E.GL.run rfl rfl rfl (E.Runs.pick_f rfl rfl rfl) ?_
                  refine E.GL.done ?_
                  refine E.QG.code ?_
                  refine E.CG.cond_t rfl ?_
                  refine E.CG.seq ?_
                  refine E.CG.list ?_
                  refine E.GL.st rfl rfl rfl (E.ST.call rfl ent14 E.evn ((works_calls _).mono ?_))
                  rintro e w138 ⟨rfl, l138⟩
                  refine ⟨_, rfl, ?_⟩
                  replace b3 := blk_below b3 l138
                  replace b7 := blk_below b7 l138
                  replace R56 := Kd.R_below R56 l138
                  replace L := below_step L l138
                  replace la := below_step la l138
                  replace lb := below_step lb l138
                  refine E.GL.run rfl rfl rfl (E.Runs.assign rfl rfl) ?_
                  refine E.GL.done ?_
                  refine E.QG.code ?_
                  refine E.CG.ret ?_
                  refine E.QG.pass_ret ?_
                  exact E.QG.result rfl rfl ⟨rfl, L⟩
                · refine E.GL.run rfl rfl rfl (E.Runs.pick_t rfl rfl rfl) ?_
                  refine E.GL.run rfl rfl rfl (E.Runs.pick_f rfl rfl rfl) ?_
                  refine E.GL.done ?_
                  refine E.QG.code ?_
                  refine E.CG.cond_f rfl ?_
                  refine E.CG.skip ?_
                  refine E.QG.code ?_
                  refine E.CG.seq ?_
                  have hno' : ¬ NextOk H l s e := hno e (by omega) (by omega)
                  refine E.CG.list ?_
                  refine E.GL.run rfl rfl rfl (E.Runs.move rfl rfl) ?_
                  refine E.GL.run rfl rfl rfl (E.Runs.fieldAddr rfl rfl hu36 rfl (by assumption) rfl) ?_
                  refine E.GL.sn rfl rfl (E.ST.store rfl (by assumption) (by assumption) rfl rfl b7 rfl (show _ = #[.int .i64 s.f0, .int .i64 e, .int .i64 s.f2.f0, .int .i64 s.f2.f1, .int .i64 s.f3, .int .i64 s.f4] from rfl) fun wS25_2 c7 lS25_2 => ?_)
                  replace b3 := blk_grown b3 lS25_2 (E.nes (by first | assumption | exact Ne.symm (by assumption)))
                  replace R56 := Kd.R_grown1 R56 rfl lS25_2 (by assumption)
                  replace L := E.below_own L h7_L lS25_2
                  replace b7 := c7
                  clear c7
                  refine E.GL.done ?_
                  refine E.QG.code ?_
                  refine E.CG.seq ?_
                  refine E.CG.cut2 (fun (A : Option Addr) (c : Nat) => [(1, .slice A1 l.length c1), (3, .pointer (some ⟨g3, 0, none⟩)), (7, .pointer (some ⟨g7, 0, none⟩)), (8, .int .i64 e), (17, .slice A (l ++ [withB s e]).length c)]) (fun A c w' => Kd.C k36 w' A (l ++ [withB s e]).length (l ++ [withB s e]) ∧ (l ++ [withB s e]).length ≤ c ∧ w'.heap[g3]? = some (.cells #[.int .i64 H.teams, .int .i64 H.walk, .int .i64 H.early, .int .i64 H.foyer, .int .i64 H.dl, .int .i64 H.dh, .int .i64 H.cl, .int .i64 H.ch] 25 (0, 0)) ∧ w'.heap[g7]? = some (.cells #[.int .i64 s.f0, .int .i64 e, .int .i64 s.f2.f0, .int .i64 s.f2.f1, .int .i64 s.f3, .int .i64 s.f4] 36 (0, 0)) ∧ Below w.heap.size w w') ?_ ?_
                  · refine E.CG.heldH (none) (by kernel_rfl) fun v10 lD hh => ?_
                    replace b3 := blk_below b3 lD
                    replace b7 := blk_below b7 lD
                    replace L := below_step L lD
                    clear lD
                    have LV := Below.refl v10.heap.size v10
                    refine E.GH.take (i := 0) rfl (by kernel_rfl) (by kernel_rfl) (by kernel_rfl) E.calm_cut2 rfl rfl rfl (fun w' hS => (E.Runs.move rfl rfl)) ?_
                    refine E.GH.take (i := 2) rfl (by kernel_rfl) (by kernel_rfl) (by kernel_rfl) E.calm_cut2 rfl rfl rfl (fun w' hS => (E.Runs.loads (cs := [.int .i64 s.f0, .int .i64 e, .int .i64 s.f2.f0, .int .i64 s.f2.f1, .int .i64 s.f3, .int .i64 s.f4]) rfl rfl hu36 rfl info36s (blk_cells (blk_grown b7 hS E.nen)))) ?_
                    refine E.GH.all (rs := [1, 3]) (by kernel_rfl) (by simp) (E.GHs.cons rfl ?_ (E.GHs.cons rfl ?_ E.GHs.nil))
                    · refine E.GO.st rfl rfl rfl (E.ST.call rfl ent18 (E.evc rfl E.evn) ((copied_own l A1 c1 _ (by omega) (Kd.C_below hr (below_step L LV)) hc).mono ?_))
                      rintro x wc ⟨u, rfl, R, lc⟩
                      refine ⟨_, rfl, hh.trans (E.gbB lc), ?_⟩
                      replace hh := hh.trans (E.gbB lc)
                      replace R := Kd.R_lower R LV.size
                      replace LV := below_step LV lc
                      refine E.GH.one (i := 3) (by kernel_rfl) rfl ?_
                      refine E.GO.st rfl rfl rfl (E.ST.litB rfl (E.epc rfl E.epn) (lit36one (withB s e)) fun gl wl el bl ll => ⟨hh.trans (E.gbB ll), ?_⟩)
                      replace hh := hh.trans (E.gbB ll)
                      replace R := Kd.R_below R ll
                      replace LV := below_step LV ll
                      refine E.GH.one (i := 4) (by kernel_rfl) rfl ?_
                      refine E.GO.st rfl rfl rfl (E.ST.appendAt k36 v10.heap.size (w0 := v10) (s := .tmp 142) (x := .tmp 144) rfl hu26 info36 rfl (by decide) (by decide) rfl rfl R (C_one (withB s e) bl) k36_made LV LV.size (by omega) fun ua wa ra ka ga aa => ⟨E.gb_row hh ga (Kd.R_base R), ?_⟩)
                      replace hh := E.gb_row hh ga (Kd.R_base R)
                      replace R := ra
                      refine E.GH.take (i := 5) rfl (by kernel_rfl) (by kernel_rfl) (by kernel_rfl) E.calm_cut2 rfl rfl rfl (fun w' hS => (E.Runs.assign rfl rfl)) ?_
                      obtain ⟨A10, c10, h10⟩ := Kd.R_slice R
                      subst h10
                      obtain ⟨_, hq2, hq3⟩ := Kd.R_reads' R
                      have BB := E.belowG hh
                      refine E.GH.done (by kernel_rfl) ?_
                      exact E.QG.meet2 _ _ (E.subc rfl (E.subc rfl (E.subc rfl (E.subc rfl (E.subc rfl (E.subn)))))) ⟨hq3, hq2, blk_below b3 BB, blk_below b7 BB, below_step L BB⟩
                    · refine E.GO.st rfl rfl rfl (E.ST.litB rfl (E.epc rfl E.epn) (lit36one (withB s e)) fun gl wl el bl ll => ⟨hh.trans (E.gbB ll), ?_⟩)
                      replace hh := hh.trans (E.gbB ll)
                      replace LV := below_step LV ll
                      refine E.GH.one (i := 1) (by kernel_rfl) rfl ?_
                      refine E.GO.st rfl rfl rfl (E.ST.call rfl ent18 (E.evc rfl E.evn) ((copied_own l A1 c1 _ (by omega) (Kd.C_below hr (below_step L LV)) hc).mono ?_))
                      rintro x wc ⟨u, rfl, R, lc⟩
                      refine ⟨_, rfl, hh.trans (E.gbB lc), ?_⟩
                      replace hh := hh.trans (E.gbB lc)
                      replace R := Kd.R_lower R LV.size
                      replace bl := blk_below bl lc
                      replace LV := below_step LV lc
                      refine E.GH.one (i := 4) (by kernel_rfl) rfl ?_
                      refine E.GO.st rfl rfl rfl (E.ST.appendAt k36 v10.heap.size (w0 := v10) (s := .tmp 142) (x := .tmp 144) rfl hu26 info36 rfl (by decide) (by decide) rfl rfl R (C_one (withB s e) bl) k36_made LV LV.size (by omega) fun ua wa ra ka ga aa => ⟨E.gb_row hh ga (Kd.R_base R), ?_⟩)
                      replace hh := E.gb_row hh ga (Kd.R_base R)
                      replace R := ra
                      refine E.GH.take (i := 5) rfl (by kernel_rfl) (by kernel_rfl) (by kernel_rfl) E.calm_cut2 rfl rfl rfl (fun w' hS => (E.Runs.assign rfl rfl)) ?_
                      obtain ⟨A10, c10, h10⟩ := Kd.R_slice R
                      subst h10
                      obtain ⟨_, hq2, hq3⟩ := Kd.R_reads' R
                      have BB := E.belowG hh
                      refine E.GH.done (by kernel_rfl) ?_
                      exact E.QG.meet2 _ _ (E.subc rfl (E.subc rfl (E.subc rfl (E.subc rfl (E.subc rfl (E.subn)))))) ⟨hq3, hq2, blk_below b3 BB, blk_below b7 BB, below_step L BB⟩
                  clear b3 b7 L
                  intro Ae ce we ⟨Ce, hce, b3, b7, L⟩
                  have le := Below.refl we.heap.size we
                  have hlse : (l ++ [withB s e]).length = l.length + 1 := by simp
                  have hve := valid_snoc (z := withB s e) h26 hlt h31
                  have hll : (l.length : Int) < ((l ++ [withB s e]).length : Int) := by omega
                  refine E.QG.code ?_
                  refine E.CG.seq ?_
                  refine E.CG.seq ?_
                  refine E.CG.list ?_
                  refine E.GL.run rfl rfl rfl (E.Runs.loads (cs := [.int .i64 H.teams, .int .i64 H.walk, .int .i64 H.early, .int .i64 H.foyer, .int .i64 H.dl, .int .i64 H.dh, .int .i64 H.cl, .int .i64 H.ch]) rfl rfl hu25 rfl info25s (blk_cells b3)) ?_
                  refine E.GL.run rfl rfl rfl (E.Runs.move rfl rfl) ?_
                  refine E.GL.st rfl rfl rfl (E.ST.call rfl ent19 (E.evc rfl (E.evc rfl E.evn)) ((check_ref H (l ++ [withB s e]) Ae ce _ (by omega) (Kd.C_below Ce le) hce).mono ?_))
                  rintro e w148 ⟨rfl, l148⟩
                  refine ⟨_, rfl, ?_⟩
                  replace b3 := blk_below b3 l148
                  replace b7 := blk_below b7 l148
                  replace L := below_step L l148
                  replace le := below_step le l148
                  refine E.GL.cmpn rfl rfl rfl (fun _ h => (E.Runs.neq rfl rfl rfl h)) (fun h149 => ?_) (fun h149 => ?_)
                  · refine E.GL.done ?_
                    refine E.QG.code ?_
                    refine E.CG.cond_t rfl ?_
                    refine E.CG.seq ?_
                    refine E.CG.list ?_
                    refine E.GL.st rfl rfl rfl (E.ST.call rfl ent14 E.evn ((works_calls _).mono ?_))
                    rintro e w150 ⟨rfl, l150⟩
                    refine ⟨_, rfl, ?_⟩
                    replace b3 := blk_below b3 l150
                    replace b7 := blk_below b7 l150
                    replace L := below_step L l150
                    replace le := below_step le l150
                    refine E.GL.run rfl rfl rfl (E.Runs.assign rfl rfl) ?_
                    refine E.GL.done ?_
                    refine E.QG.code ?_
                    refine E.CG.ret ?_
                    refine E.QG.pass_ret ?_
                    exact E.QG.result rfl rfl ⟨rfl, L⟩
                  · have Ve := (checkE_valid H _).mp h149
                    refine E.GL.done ?_
                    refine E.QG.code ?_
                    refine E.CG.cond_f rfl ?_
                    refine E.CG.skip ?_
                    refine E.QG.code ?_
                    refine E.CG.seq ?_
                    refine E.CG.list ?_
                    refine E.GL.run rfl rfl rfl (E.Runs.loads (cs := [.int .i64 H.teams, .int .i64 H.walk, .int .i64 H.early, .int .i64 H.foyer, .int .i64 H.dl, .int .i64 H.dh, .int .i64 H.cl, .int .i64 H.ch]) rfl rfl hu25 rfl info25s (blk_cells b3)) ?_
                    refine E.GL.run rfl rfl rfl (E.Runs.move rfl rfl) ?_
                    refine E.GL.st rfl rfl rfl (E.ST.call rfl ent15 (E.evc rfl (E.evc rfl E.evn)) ((times_reads H (l ++ [withB s e]) Ae ce _ Ve (Kd.C_below Ce le) hce).mono ?_))
                    rintro e w154 ⟨Af, cf, rfl, kf, l154⟩
                    refine ⟨_, rfl, ?_⟩
                    replace b3 := blk_below b3 l154
                    replace b7 := blk_below b7 l154
                    replace L := below_step L l154
                    replace le := below_step le l154
                    obtain ⟨t, u, TO, t1, t2, t3, t4⟩ := last_told Ve
                    have hne : ¬ u.start = e := fun hh => hno' ⟨hve.mp Ve, by rw [t3]; exact hh⟩
                    have hgt : e < u.start := by have t5 : e ≤ t.start := t1; omega
                    obtain ⟨am, eM, M⟩ := mom_at kf TO (by omega)
                    obtain ⟨x0, x1, x2, x3, x4, x5, x6, x7, x8, x9⟩ := M
                    refine E.GL.run rfl rfl rfl (E.Runs.move rfl rfl) ?_
                    refine E.GL.run rfl rfl rfl (E.Runs.extract rfl rfl rfl) ?_
                    refine E.GL.run rfl rfl rfl (E.Runs.extract rfl rfl rfl) ?_
                    refine E.GL.run rfl rfl rfl (E.Runs.assign rfl rfl) ?_
                    refine E.GL.run rfl rfl rfl (E.Runs.assign rfl rfl) ?_
                    refine E.GL.done ?_
                    refine E.QG.code ?_
                    refine E.CG.seq ?_
                    refine E.CG.list ?_
                    refine E.GL.run rfl rfl rfl (E.Runs.move rfl rfl) ?_
                    refine E.GL.run rfl rfl rfl (E.Runs.eql rfl rfl rfl (decide_eq_true rfl)) ?_
                    refine E.GL.run rfl rfl rfl (E.Runs.move rfl rfl) ?_
                    refine E.GL.run rfl rfl rfl (E.Runs.move rfl rfl) ?_
                    refine E.GL.run rfl rfl rfl (E.Runs.len rfl rfl hu29) ?_
                    refine E.GL.run rfl rfl rfl (E.Runs.move rfl rfl) ?_
                    refine E.GL.run rfl rfl rfl (E.Runs.len rfl rfl hu26) ?_
                    refine E.GL.run rfl rfl rfl (E.Runs.eql rfl rfl rfl (decide_eq_true rfl)) ?_
                    refine E.GL.run rfl rfl rfl (E.Runs.pick_t rfl rfl rfl) ?_
                    refine E.GL.run rfl rfl rfl (E.Runs.move rfl rfl) ?_
                    refine E.GL.run rfl rfl rfl (E.Runs.move rfl rfl) ?_
                    refine E.GL.run rfl rfl rfl (E.Runs.move rfl rfl) ?_
                    refine E.GL.run rfl rfl rfl (E.Runs.len rfl rfl hu26) ?_
                    refine E.GL.run rfl rfl rfl (E.Runs.indexAddrA rfl rfl rfl hu29 (by assumption) (by assumption) (by assumption) (by first | rfl | assumption) rfl) ?_
                    refine E.GL.run rfl rfl rfl (E.Runs.fieldAddr rfl rfl hu34 rfl (by assumption) rfl) ?_
                    refine E.GL.run rfl rfl rfl (E.Runs.fieldAddr rfl rfl hu23 rfl (by assumption) rfl) ?_
                    refine E.GL.run rfl rfl rfl (E.Runs.load rfl rfl hu3 (by first | assumption | exact E.blkc (by assumption) rfl | exact pw_cell_below L (by assumption) | exact pw_cell_below le (by assumption))) ?_
                    refine E.GL.run rfl rfl rfl (E.Runs.move rfl rfl) ?_
                    refine E.GL.run rfl rfl rfl (E.Runs.gtr rfl rfl rfl (decide_eq_true hgt)) ?_
                    refine E.GL.run rfl rfl rfl (E.Runs.pick_t rfl rfl rfl) ?_
                    refine E.GL.run rfl rfl rfl (E.Runs.move rfl rfl) ?_
                    refine E.GL.st rfl rfl rfl (E.ST.call rfl ent14 E.evn ((works_calls _).mono ?_))
                    rintro e w178 ⟨rfl, l178⟩
                    refine ⟨_, rfl, ?_⟩
                    replace b3 := blk_below b3 l178
                    replace b7 := blk_below b7 l178
                    replace L := below_step L l178
                    replace le := below_step le l178
                    refine E.GL.run rfl rfl rfl (E.Runs.pick_t rfl rfl rfl) ?_
                    refine E.GL.run rfl rfl rfl (E.Runs.assign rfl rfl) ?_
                    refine E.GL.done ?_
                    refine E.QG.code ?_
                    refine E.CG.ret ?_
                    exact E.QG.result rfl rfl ⟨rfl, L⟩
        · refine E.GL.st rfl rfl rfl (E.ST.call rfl ent17 (E.evc rfl (E.evc rfl (E.evc rfl E.evn))) ((next_none H l s A1 c1 _ h26 h31 hlt hN (Kd.C_below hr L) hc).mono ?_))
          rintro e w44 ⟨rfl, l44⟩
          refine ⟨_, rfl, ?_⟩
          replace b3 := blk_below b3 l44
          replace b5 := blk_below b5 l44
          replace b7 := blk_below b7 l44
          replace L := below_step L l44
          refine E.GL.run rfl rfl rfl (E.Runs.move rfl rfl) ?_
          refine E.GL.run rfl rfl rfl (E.Runs.extract rfl rfl rfl) ?_
          refine E.GL.run rfl rfl rfl (E.Runs.extract rfl rfl rfl) ?_
          refine E.GL.run rfl rfl rfl (E.Runs.assign rfl rfl) ?_
          refine E.GL.run rfl rfl rfl (E.Runs.assign rfl rfl) ?_
          refine E.GL.done ?_
          refine E.QG.code ?_
          refine E.CG.seq ?_
          refine E.CG.seq ?_
          refine E.CG.list ?_
          refine E.GL.run rfl rfl rfl (E.Runs.move rfl rfl) ?_
          refine E.GL.run rfl rfl rfl (E.Runs.neq rfl rfl rfl (E.ne_t (by decide))) ?_
          refine E.GL.run rfl rfl rfl (E.Runs.move rfl rfl) ?_
          refine E.GL.run rfl rfl rfl (E.Runs.move rfl rfl) ?_
          refine E.GL.run rfl rfl rfl (E.Runs.neq rfl rfl rfl (E.ne_f rfl)) ?_
          refine E.GL.run rfl rfl rfl (E.Runs.pick_t rfl rfl rfl) ?_
          refine E.GL.done ?_
          refine E.QG.code ?_
          refine E.CG.cond_f rfl ?_
          refine E.CG.skip ?_
          refine E.QG.code ?_
          refine E.CG.seq ?_
          refine E.CG.list ?_
          refine E.GL.run rfl rfl rfl (E.Runs.loads (cs := [.int .i64 H.teams, .int .i64 H.walk, .int .i64 H.early, .int .i64 H.foyer, .int .i64 H.dl, .int .i64 H.dh, .int .i64 H.cl, .int .i64 H.ch]) rfl rfl hu25 rfl info25s (blk_cells b3)) ?_
          refine E.GL.run rfl rfl rfl (E.Runs.move rfl rfl) ?_
          have s_56 := L
          refine E.GL.st rfl rfl rfl (E.ST.call rfl ent15 (E.evc rfl (E.evc rfl E.evn)) ((times_calls H l A1 c1 _ h26 (Kd.C_below hr L) hc).mono ?_))
          rintro e w56 ⟨v56, rfl, R56, l56⟩
          refine ⟨_, rfl, ?_⟩
          replace b3 := blk_below b3 l56
          replace b5 := blk_below b5 l56
          replace b7 := blk_below b7 l56
          replace L := below_step L l56
          obtain ⟨Am, cm, h56⟩ := Kd.R_slice R56
          rw [moments_length] at h56
          subst h56
          replace R56 := Kd.R_lower R56 s_56.size
          have n7_R56 := Kd.R_ne R56 b7 (by decide)
          refine E.GL.run rfl rfl rfl (E.Runs.move rfl rfl) ?_
          refine E.GL.run rfl rfl rfl (E.Runs.extract rfl rfl rfl) ?_
          refine E.GL.run rfl rfl rfl (E.Runs.extract rfl rfl rfl) ?_
          refine E.GL.run rfl rfl rfl (E.Runs.assign rfl rfl) ?_
          refine E.GL.run rfl rfl rfl (E.Runs.assign rfl rfl) ?_
          refine E.GL.done ?_
          refine E.QG.code ?_
          refine E.CG.seq ?_
          refine E.CG.seq ?_
          refine E.CG.list ?_
          refine E.GL.run rfl rfl rfl (E.Runs.move rfl rfl) ?_
          refine E.GL.run rfl rfl rfl (E.Runs.neq rfl rfl rfl (E.ne_f rfl)) ?_
          refine E.GL.run rfl rfl rfl (E.Runs.move rfl rfl) ?_
          refine E.GL.run rfl rfl rfl (E.Runs.move rfl rfl) ?_
          refine E.GL.run rfl rfl rfl (E.Runs.len rfl rfl hu29) ?_
          refine E.GL.run rfl rfl rfl (E.Runs.move rfl rfl) ?_
          refine E.GL.run rfl rfl rfl (E.Runs.len rfl rfl hu26) ?_
          refine E.GL.run rfl rfl rfl (E.Runs.neq rfl rfl rfl (E.ne_f rfl)) ?_
          refine E.GL.run rfl rfl rfl (E.Runs.pick_f rfl rfl rfl) ?_
          refine E.GL.done ?_
          refine E.QG.code ?_
          refine E.CG.cond_f rfl ?_
          refine E.CG.skip ?_
          refine E.QG.code ?_
          refine E.CG.seq ?_
          refine E.CG.seq ?_
          refine E.CG.list ?_
          refine E.GL.run rfl rfl rfl (E.Runs.move rfl rfl) ?_
          refine E.GL.run rfl rfl rfl (E.Runs.eql rfl rfl rfl (decide_eq_false (by decide))) ?_
          refine E.GL.done ?_
          refine E.QG.code ?_
          refine E.CG.cond_f rfl ?_
          refine E.CG.skip ?_
          refine E.QG.code ?_
          refine E.CG.seq ?_
          refine E.CG.seq ?_
          refine E.CG.list ?_
          refine E.GL.run rfl rfl rfl (E.Runs.move rfl rfl) ?_
          refine E.GL.cmp rfl rfl rfl (fun _ h => (E.Runs.lss rfl rfl rfl h)) (fun h124 => ?_) (fun h124 => ?_)
          · refine E.GL.run rfl rfl rfl (E.Runs.move rfl rfl) ?_
            refine E.GL.skip rfl rfl rfl ?_
            refine E.GL.skip rfl rfl rfl ?_
            refine E.GL.run rfl rfl rfl (E.Runs.pick_t rfl rfl rfl) ?_
            refine E.GL.run rfl rfl rfl (E.Runs.move rfl rfl) ?_
            refine E.GL.skip rfl rfl rfl ?_
            refine E.GL.skip rfl rfl rfl ?_
            refine E.GL.skip rfl rfl rfl ?_
            refine E.GL.skip rfl rfl rfl ?_
            refine E.GL.skip rfl rfl rfl ?_
            refine E.GL.skip rfl rfl rfl ?_
            refine E.GL.skip rfl rfl rfl ?_
            refine E.GL.run rfl rfl rfl (E.Runs.pick_t rfl rfl rfl) ?_
            refine E.GL.done ?_
            refine E.QG.code ?_
            refine E.CG.cond_t rfl ?_
            refine E.CG.seq ?_
            refine E.CG.list ?_
            refine E.GL.st rfl rfl rfl (E.ST.call rfl ent14 E.evn ((works_calls _).mono ?_))
            rintro e w138 ⟨rfl, l138⟩
            refine ⟨_, rfl, ?_⟩
            replace b3 := blk_below b3 l138
            replace b5 := blk_below b5 l138
            replace b7 := blk_below b7 l138
            replace R56 := Kd.R_below R56 l138
            replace L := below_step L l138
            refine E.GL.run rfl rfl rfl (E.Runs.assign rfl rfl) ?_
            refine E.GL.done ?_
            refine E.QG.code ?_
            refine E.CG.ret ?_
            refine E.QG.pass_ret ?_
            exact E.QG.result rfl rfl ⟨rfl, L⟩
          · refine E.GL.run rfl rfl rfl (E.Runs.move rfl rfl) ?_
            refine E.GL.run rfl rfl rfl (E.Runs.move rfl rfl) ?_
            refine E.GL.cmp rfl rfl rfl (fun _ h => (E.Runs.gtr rfl rfl rfl h)) (fun h127 => ?_) (fun h127 => ?_)
            · refine E.GL.run rfl rfl rfl (E.Runs.pick_f rfl rfl rfl) ?_
              refine E.GL.run rfl rfl rfl (E.Runs.move rfl rfl) ?_
              refine E.GL.skip rfl rfl rfl ?_
              refine E.GL.skip rfl rfl rfl ?_
              refine E.GL.skip rfl rfl rfl ?_
              refine E.GL.skip rfl rfl rfl ?_
              refine E.GL.skip rfl rfl rfl ?_
              refine E.GL.skip rfl rfl rfl ?_
              refine E.GL.skip rfl rfl rfl ?_
              refine E.GL.run rfl rfl rfl (E.Runs.pick_t rfl rfl rfl) ?_
              refine E.GL.done ?_
              refine E.QG.code ?_
              refine E.CG.cond_t rfl ?_
              refine E.CG.seq ?_
              refine E.CG.list ?_
              refine E.GL.st rfl rfl rfl (E.ST.call rfl ent14 E.evn ((works_calls _).mono ?_))
              rintro e w138 ⟨rfl, l138⟩
              refine ⟨_, rfl, ?_⟩
              replace b3 := blk_below b3 l138
              replace b5 := blk_below b5 l138
              replace b7 := blk_below b7 l138
              replace R56 := Kd.R_below R56 l138
              replace L := below_step L l138
              refine E.GL.run rfl rfl rfl (E.Runs.assign rfl rfl) ?_
              refine E.GL.done ?_
              refine E.QG.code ?_
              refine E.CG.ret ?_
              refine E.QG.pass_ret ?_
              exact E.QG.result rfl rfl ⟨rfl, L⟩
            · refine E.GL.run rfl rfl rfl (E.Runs.pick_f rfl rfl rfl) ?_
              refine E.GL.run rfl rfl rfl (E.Runs.move rfl rfl) ?_
              refine E.GL.run rfl rfl rfl (E.Runs.move rfl rfl) ?_
              refine E.GL.run rfl rfl rfl (E.Runs.eql rfl rfl rfl (decide_eq_false (by decide))) ?_
              refine E.GL.run rfl rfl rfl (E.Runs.move rfl rfl) ?_
              refine E.GL.skip rfl rfl rfl ?_
              refine E.GL.skip rfl rfl rfl ?_
              refine E.GL.skip rfl rfl rfl ?_
              refine E.GL.run rfl rfl rfl (E.Runs.pick_f rfl rfl rfl) ?_
              refine E.GL.run rfl rfl rfl (E.Runs.pick_f rfl rfl rfl) ?_
              refine E.GL.done ?_
              refine E.QG.code ?_
              refine E.CG.cond_f rfl ?_
              refine E.CG.skip ?_
              refine E.QG.code ?_
              refine E.CG.seq ?_
              have hno' : ¬ NextOk H l s e := hno e (by omega) (by omega)
              refine E.CG.list ?_
              refine E.GL.run rfl rfl rfl (E.Runs.move rfl rfl) ?_
              refine E.GL.run rfl rfl rfl (E.Runs.fieldAddr rfl rfl hu36 rfl (by assumption) rfl) ?_
              refine E.GL.sn rfl rfl (E.ST.store rfl (by assumption) (by assumption) rfl rfl b7 rfl (show _ = #[.int .i64 s.f0, .int .i64 e, .int .i64 s.f2.f0, .int .i64 s.f2.f1, .int .i64 s.f3, .int .i64 s.f4] from rfl) fun wS25_2 c7 lS25_2 => ?_)
              replace b3 := blk_grown b3 lS25_2 (E.nes (by first | assumption | exact Ne.symm (by assumption)))
              replace b5 := blk_grown b5 lS25_2 (E.nes (by first | assumption | exact Ne.symm (by assumption)))
              replace R56 := Kd.R_grown1 R56 rfl lS25_2 (by assumption)
              replace L := E.below_own L h7_L lS25_2
              replace b7 := c7
              clear c7
              refine E.GL.done ?_
              refine E.QG.code ?_
              refine E.CG.seq ?_
              refine E.CG.cut2 (fun (A : Option Addr) (c : Nat) => [(1, .slice A1 l.length c1), (3, .pointer (some ⟨g3, 0, none⟩)), (7, .pointer (some ⟨g7, 0, none⟩)), (8, .int .i64 e), (17, .slice A (l ++ [withB s e]).length c)]) (fun A c w' => Kd.C k36 w' A (l ++ [withB s e]).length (l ++ [withB s e]) ∧ (l ++ [withB s e]).length ≤ c ∧ w'.heap[g3]? = some (.cells #[.int .i64 H.teams, .int .i64 H.walk, .int .i64 H.early, .int .i64 H.foyer, .int .i64 H.dl, .int .i64 H.dh, .int .i64 H.cl, .int .i64 H.ch] 25 (0, 0)) ∧ w'.heap[g7]? = some (.cells #[.int .i64 s.f0, .int .i64 e, .int .i64 s.f2.f0, .int .i64 s.f2.f1, .int .i64 s.f3, .int .i64 s.f4] 36 (0, 0)) ∧ Below w.heap.size w w') ?_ ?_
              · refine E.CG.heldH (none) (by kernel_rfl) fun v10 lD hh => ?_
                replace b3 := blk_below b3 lD
                replace b7 := blk_below b7 lD
                replace L := below_step L lD
                clear lD
                have LV := Below.refl v10.heap.size v10
                refine E.GH.take (i := 0) rfl (by kernel_rfl) (by kernel_rfl) (by kernel_rfl) E.calm_cut2 rfl rfl rfl (fun w' hS => (E.Runs.move rfl rfl)) ?_
                refine E.GH.take (i := 2) rfl (by kernel_rfl) (by kernel_rfl) (by kernel_rfl) E.calm_cut2 rfl rfl rfl (fun w' hS => (E.Runs.loads (cs := [.int .i64 s.f0, .int .i64 e, .int .i64 s.f2.f0, .int .i64 s.f2.f1, .int .i64 s.f3, .int .i64 s.f4]) rfl rfl hu36 rfl info36s (blk_cells (blk_grown b7 hS E.nen)))) ?_
                refine E.GH.all (rs := [1, 3]) (by kernel_rfl) (by simp) (E.GHs.cons rfl ?_ (E.GHs.cons rfl ?_ E.GHs.nil))
                · refine E.GO.st rfl rfl rfl (E.ST.call rfl ent18 (E.evc rfl E.evn) ((copied_own l A1 c1 _ (by omega) (Kd.C_below hr (below_step L LV)) hc).mono ?_))
                  rintro x wc ⟨u, rfl, R, lc⟩
                  refine ⟨_, rfl, hh.trans (E.gbB lc), ?_⟩
                  replace hh := hh.trans (E.gbB lc)
                  replace R := Kd.R_lower R LV.size
                  replace LV := below_step LV lc
                  refine E.GH.one (i := 3) (by kernel_rfl) rfl ?_
                  refine E.GO.st rfl rfl rfl (E.ST.litB rfl (E.epc rfl E.epn) (lit36one (withB s e)) fun gl wl el bl ll => ⟨hh.trans (E.gbB ll), ?_⟩)
                  replace hh := hh.trans (E.gbB ll)
                  replace R := Kd.R_below R ll
                  replace LV := below_step LV ll
                  refine E.GH.one (i := 4) (by kernel_rfl) rfl ?_
                  refine E.GO.st rfl rfl rfl (E.ST.appendAt k36 v10.heap.size (w0 := v10) (s := .tmp 142) (x := .tmp 144) rfl hu26 info36 rfl (by decide) (by decide) rfl rfl R (C_one (withB s e) bl) k36_made LV LV.size (by omega) fun ua wa ra ka ga aa => ⟨E.gb_row hh ga (Kd.R_base R), ?_⟩)
                  replace hh := E.gb_row hh ga (Kd.R_base R)
                  replace R := ra
                  refine E.GH.take (i := 5) rfl (by kernel_rfl) (by kernel_rfl) (by kernel_rfl) E.calm_cut2 rfl rfl rfl (fun w' hS => (E.Runs.assign rfl rfl)) ?_
                  obtain ⟨A10, c10, h10⟩ := Kd.R_slice R
                  subst h10
                  obtain ⟨_, hq2, hq3⟩ := Kd.R_reads' R
                  have BB := E.belowG hh
                  refine E.GH.done (by kernel_rfl) ?_
                  exact E.QG.meet2 _ _ (E.subc rfl (E.subc rfl (E.subc rfl (E.subc rfl (E.subc rfl (E.subn)))))) ⟨hq3, hq2, blk_below b3 BB, blk_below b7 BB, below_step L BB⟩
                · refine E.GO.st rfl rfl rfl (E.ST.litB rfl (E.epc rfl E.epn) (lit36one (withB s e)) fun gl wl el bl ll => ⟨hh.trans (E.gbB ll), ?_⟩)
                  replace hh := hh.trans (E.gbB ll)
                  replace LV := below_step LV ll
                  refine E.GH.one (i := 1) (by kernel_rfl) rfl ?_
                  refine E.GO.st rfl rfl rfl (E.ST.call rfl ent18 (E.evc rfl E.evn) ((copied_own l A1 c1 _ (by omega) (Kd.C_below hr (below_step L LV)) hc).mono ?_))
                  rintro x wc ⟨u, rfl, R, lc⟩
                  refine ⟨_, rfl, hh.trans (E.gbB lc), ?_⟩
                  replace hh := hh.trans (E.gbB lc)
                  replace R := Kd.R_lower R LV.size
                  replace bl := blk_below bl lc
                  replace LV := below_step LV lc
                  refine E.GH.one (i := 4) (by kernel_rfl) rfl ?_
                  refine E.GO.st rfl rfl rfl (E.ST.appendAt k36 v10.heap.size (w0 := v10) (s := .tmp 142) (x := .tmp 144) rfl hu26 info36 rfl (by decide) (by decide) rfl rfl R (C_one (withB s e) bl) k36_made LV LV.size (by omega) fun ua wa ra ka ga aa => ⟨E.gb_row hh ga (Kd.R_base R), ?_⟩)
                  replace hh := E.gb_row hh ga (Kd.R_base R)
                  replace R := ra
                  refine E.GH.take (i := 5) rfl (by kernel_rfl) (by kernel_rfl) (by kernel_rfl) E.calm_cut2 rfl rfl rfl (fun w' hS => (E.Runs.assign rfl rfl)) ?_
                  obtain ⟨A10, c10, h10⟩ := Kd.R_slice R
                  subst h10
                  obtain ⟨_, hq2, hq3⟩ := Kd.R_reads' R
                  have BB := E.belowG hh
                  refine E.GH.done (by kernel_rfl) ?_
                  exact E.QG.meet2 _ _ (E.subc rfl (E.subc rfl (E.subc rfl (E.subc rfl (E.subc rfl (E.subn)))))) ⟨hq3, hq2, blk_below b3 BB, blk_below b7 BB, below_step L BB⟩
              clear b3 b7 L
              intro Ae ce we ⟨Ce, hce, b3, b7, L⟩
              have le := Below.refl we.heap.size we
              have hlse : (l ++ [withB s e]).length = l.length + 1 := by simp
              have hve := valid_snoc (z := withB s e) h26 hlt h31
              have hll : (l.length : Int) < ((l ++ [withB s e]).length : Int) := by omega
              refine E.QG.code ?_
              refine E.CG.seq ?_
              refine E.CG.seq ?_
              refine E.CG.list ?_
              refine E.GL.run rfl rfl rfl (E.Runs.loads (cs := [.int .i64 H.teams, .int .i64 H.walk, .int .i64 H.early, .int .i64 H.foyer, .int .i64 H.dl, .int .i64 H.dh, .int .i64 H.cl, .int .i64 H.ch]) rfl rfl hu25 rfl info25s (blk_cells b3)) ?_
              refine E.GL.run rfl rfl rfl (E.Runs.move rfl rfl) ?_
              refine E.GL.st rfl rfl rfl (E.ST.call rfl ent19 (E.evc rfl (E.evc rfl E.evn)) ((check_ref H (l ++ [withB s e]) Ae ce _ (by omega) (Kd.C_below Ce le) hce).mono ?_))
              rintro e w148 ⟨rfl, l148⟩
              refine ⟨_, rfl, ?_⟩
              replace b3 := blk_below b3 l148
              replace b7 := blk_below b7 l148
              replace L := below_step L l148
              replace le := below_step le l148
              refine E.GL.cmpn rfl rfl rfl (fun _ h => (E.Runs.neq rfl rfl rfl h)) (fun h149 => ?_) (fun h149 => ?_)
              · refine E.GL.done ?_
                refine E.QG.code ?_
                refine E.CG.cond_t rfl ?_
                refine E.CG.seq ?_
                refine E.CG.list ?_
                refine E.GL.st rfl rfl rfl (E.ST.call rfl ent14 E.evn ((works_calls _).mono ?_))
                rintro e w150 ⟨rfl, l150⟩
                refine ⟨_, rfl, ?_⟩
                replace b3 := blk_below b3 l150
                replace b7 := blk_below b7 l150
                replace L := below_step L l150
                replace le := below_step le l150
                refine E.GL.run rfl rfl rfl (E.Runs.assign rfl rfl) ?_
                refine E.GL.done ?_
                refine E.QG.code ?_
                refine E.CG.ret ?_
                refine E.QG.pass_ret ?_
                exact E.QG.result rfl rfl ⟨rfl, L⟩
              · have Ve := (checkE_valid H _).mp h149
                refine E.GL.done ?_
                refine E.QG.code ?_
                refine E.CG.cond_f rfl ?_
                refine E.CG.skip ?_
                refine E.QG.code ?_
                refine E.CG.seq ?_
                refine E.CG.list ?_
                refine E.GL.run rfl rfl rfl (E.Runs.loads (cs := [.int .i64 H.teams, .int .i64 H.walk, .int .i64 H.early, .int .i64 H.foyer, .int .i64 H.dl, .int .i64 H.dh, .int .i64 H.cl, .int .i64 H.ch]) rfl rfl hu25 rfl info25s (blk_cells b3)) ?_
                refine E.GL.run rfl rfl rfl (E.Runs.move rfl rfl) ?_
                refine E.GL.st rfl rfl rfl (E.ST.call rfl ent15 (E.evc rfl (E.evc rfl E.evn)) ((times_reads H (l ++ [withB s e]) Ae ce _ Ve (Kd.C_below Ce le) hce).mono ?_))
                rintro e w154 ⟨Af, cf, rfl, kf, l154⟩
                refine ⟨_, rfl, ?_⟩
                replace b3 := blk_below b3 l154
                replace b7 := blk_below b7 l154
                replace L := below_step L l154
                replace le := below_step le l154
                obtain ⟨t, u, TO, t1, t2, t3, t4⟩ := last_told Ve
                have hne : ¬ u.start = e := fun hh => hno' ⟨hve.mp Ve, by rw [t3]; exact hh⟩
                have hgt : e < u.start := by have t5 : e ≤ t.start := t1; omega
                obtain ⟨am, eM, M⟩ := mom_at kf TO (by omega)
                obtain ⟨x0, x1, x2, x3, x4, x5, x6, x7, x8, x9⟩ := M
                refine E.GL.run rfl rfl rfl (E.Runs.move rfl rfl) ?_
                refine E.GL.run rfl rfl rfl (E.Runs.extract rfl rfl rfl) ?_
                refine E.GL.run rfl rfl rfl (E.Runs.extract rfl rfl rfl) ?_
                refine E.GL.run rfl rfl rfl (E.Runs.assign rfl rfl) ?_
                refine E.GL.run rfl rfl rfl (E.Runs.assign rfl rfl) ?_
                refine E.GL.done ?_
                refine E.QG.code ?_
                refine E.CG.seq ?_
                refine E.CG.list ?_
                refine E.GL.run rfl rfl rfl (E.Runs.move rfl rfl) ?_
                refine E.GL.run rfl rfl rfl (E.Runs.eql rfl rfl rfl (decide_eq_true rfl)) ?_
                refine E.GL.run rfl rfl rfl (E.Runs.move rfl rfl) ?_
                refine E.GL.run rfl rfl rfl (E.Runs.move rfl rfl) ?_
                refine E.GL.run rfl rfl rfl (E.Runs.len rfl rfl hu29) ?_
                refine E.GL.run rfl rfl rfl (E.Runs.move rfl rfl) ?_
                refine E.GL.run rfl rfl rfl (E.Runs.len rfl rfl hu26) ?_
                refine E.GL.run rfl rfl rfl (E.Runs.eql rfl rfl rfl (decide_eq_true rfl)) ?_
                refine E.GL.run rfl rfl rfl (E.Runs.pick_t rfl rfl rfl) ?_
                refine E.GL.run rfl rfl rfl (E.Runs.move rfl rfl) ?_
                refine E.GL.run rfl rfl rfl (E.Runs.move rfl rfl) ?_
                refine E.GL.run rfl rfl rfl (E.Runs.move rfl rfl) ?_
                refine E.GL.run rfl rfl rfl (E.Runs.len rfl rfl hu26) ?_
                refine E.GL.run rfl rfl rfl (E.Runs.indexAddrA rfl rfl rfl hu29 (by assumption) (by assumption) (by assumption) (by first | rfl | assumption) rfl) ?_
                refine E.GL.run rfl rfl rfl (E.Runs.fieldAddr rfl rfl hu34 rfl (by assumption) rfl) ?_
                refine E.GL.run rfl rfl rfl (E.Runs.fieldAddr rfl rfl hu23 rfl (by assumption) rfl) ?_
                refine E.GL.run rfl rfl rfl (E.Runs.load rfl rfl hu3 (by first | assumption | exact E.blkc (by assumption) rfl | exact pw_cell_below L (by assumption) | exact pw_cell_below le (by assumption))) ?_
                refine E.GL.run rfl rfl rfl (E.Runs.move rfl rfl) ?_
                refine E.GL.run rfl rfl rfl (E.Runs.gtr rfl rfl rfl (decide_eq_true hgt)) ?_
                refine E.GL.run rfl rfl rfl (E.Runs.pick_t rfl rfl rfl) ?_
                refine E.GL.run rfl rfl rfl (E.Runs.move rfl rfl) ?_
                refine E.GL.st rfl rfl rfl (E.ST.call rfl ent14 E.evn ((works_calls _).mono ?_))
                rintro e w178 ⟨rfl, l178⟩
                refine ⟨_, rfl, ?_⟩
                replace b3 := blk_below b3 l178
                replace b7 := blk_below b7 l178
                replace L := below_step L l178
                replace le := below_step le l178
                refine E.GL.run rfl rfl rfl (E.Runs.pick_t rfl rfl rfl) ?_
                refine E.GL.run rfl rfl rfl (E.Runs.assign rfl rfl) ?_
                refine E.GL.done ?_
                refine E.QG.code ?_
                refine E.CG.ret ?_
                exact E.QG.result rfl rfl ⟨rfl, L⟩
    · refine E.GL.st rfl rfl rfl (E.ST.call rfl ent16 (E.evc rfl (E.evc rfl E.evn)) ((slot_r H s false (iff_of_false Bool.false_ne_true h31) h26.1 _).mono ?_))
      rintro e w31 ⟨rfl, l31⟩
      refine ⟨_, rfl, ?_⟩
      replace b3 := blk_below b3 l31
      replace b5 := blk_below b5 l31
      replace b7 := blk_below b7 l31
      replace L := below_step L l31
      refine E.GL.run rfl rfl rfl (E.Runs.not rfl rfl) ?_
      refine E.GL.run rfl rfl rfl (E.Runs.pick_f rfl rfl rfl) ?_
      refine E.GL.run rfl rfl rfl (E.Runs.move rfl rfl) ?_
      refine E.GL.skip rfl rfl rfl ?_
      refine E.GL.skip rfl rfl rfl ?_
      refine E.GL.skip rfl rfl rfl ?_
      refine E.GL.run rfl rfl rfl (E.Runs.pick_t rfl rfl rfl) ?_
      refine E.GL.done ?_
      refine E.QG.code ?_
      refine E.CG.cond_t rfl ?_
      refine E.CG.seq ?_
      refine E.CG.list ?_
      refine E.GL.st rfl rfl rfl (E.ST.call rfl ent14 E.evn ((works_calls _).mono ?_))
      rintro e w39 ⟨rfl, l39⟩
      refine ⟨_, rfl, ?_⟩
      replace b3 := blk_below b3 l39
      replace b5 := blk_below b5 l39
      replace b7 := blk_below b7 l39
      replace L := below_step L l39
      refine E.GL.run rfl rfl rfl (E.Runs.assign rfl rfl) ?_
      refine E.GL.done ?_
      refine E.QG.code ?_
      refine E.CG.ret ?_
      refine E.QG.pass_ret ?_
      exact E.QG.result rfl rfl ⟨rfl, L⟩
  · refine E.GL.st rfl rfl rfl (E.ST.call rfl ent13 (E.evc rfl (E.evc rfl E.evn)) ((valid_row H l A1 c1 _ false (iff_of_false Bool.false_ne_true h26) (Kd.C_below hr L) hc).mono ?_))
    rintro e w26 ⟨rfl, l26⟩
    refine ⟨_, rfl, ?_⟩
    replace b3 := blk_below b3 l26
    replace b5 := blk_below b5 l26
    replace b7 := blk_below b7 l26
    replace L := below_step L l26
    refine E.GL.run rfl rfl rfl (E.Runs.not rfl rfl) ?_
    refine E.GL.run rfl rfl rfl (E.Runs.move rfl rfl) ?_
    refine E.GL.skip rfl rfl rfl ?_
    refine E.GL.skip rfl rfl rfl ?_
    refine E.GL.skip rfl rfl rfl ?_
    refine E.GL.skip rfl rfl rfl ?_
    refine E.GL.run rfl rfl rfl (E.Runs.pick_t rfl rfl rfl) ?_
    refine E.GL.run rfl rfl rfl (E.Runs.move rfl rfl) ?_
    refine E.GL.skip rfl rfl rfl ?_
    refine E.GL.skip rfl rfl rfl ?_
    refine E.GL.skip rfl rfl rfl ?_
    refine E.GL.run rfl rfl rfl (E.Runs.pick_t rfl rfl rfl) ?_
    refine E.GL.done ?_
    refine E.QG.code ?_
    refine E.CG.cond_t rfl ?_
    refine E.CG.seq ?_
    refine E.CG.list ?_
    refine E.GL.st rfl rfl rfl (E.ST.call rfl ent14 E.evn ((works_calls _).mono ?_))
    rintro e w39 ⟨rfl, l39⟩
    refine ⟨_, rfl, ?_⟩
    replace b3 := blk_below b3 l39
    replace b5 := blk_below b5 l39
    replace b7 := blk_below b7 l39
    replace L := below_step L l39
    refine E.GL.run rfl rfl rfl (E.Runs.assign rfl rfl) ?_
    refine E.GL.done ?_
    refine E.QG.code ?_
    refine E.CG.ret ?_
    refine E.QG.pass_ret ?_
    exact E.QG.result rfl rfl ⟨rfl, L⟩

end Go.Proofs.Ythdbkhdiaehblaa.T
