/- LampBlamed: the walk of the law. -/
import Derived.Test.YtbajpjnloikpdaaP20
import Derived.Test.YtbajpjnloikpdaaP16
namespace Go.Proofs.Ytbajpjnloikpdaa.T
open Go.RowKit Go.Proofs.YtbajpjnloikpdaaW.PrintWords Go.Proofs.YtbajpjnloikpdaaW.PrintMore
open Go.Proofs.Ytbajpjnloikpdaa.P
set_option linter.unusedVariables false
set_option linter.unusedSimpArgs false

set_option maxRecDepth 100000 in
theorem bool_equal (x y : Bool) (W : World) : (Op.equal 4 (.bool x) (.bool y)).run Try.prog W = .ok (x == y) W := by
  have hu4 := Try.underlying4
  unfold Op.equal Op.maxDepth
  go_simp
theorem mem_blameF {t : List Ln} : ∀ {l : List S64} {j k : Int}, k ∈ blameF t l j → ∃ (i : Nat) (g : S64), k = j + i ∧ l[i]? = some g ∧ badG t g
  | [], j, k, h => by simp [blameF] at h
  | g :: l, j, k, h => by
    simp only [blameF] at h
    have rest : k ∈ blameF t l (j + 1) → ∃ (i : Nat) (g' : S64), k = j + i ∧ (g :: l)[i]? = some g' ∧ badG t g' := fun h => by
      obtain ⟨i, g', h1, h2, h3⟩ := mem_blameF h
      exact ⟨i + 1, g', by omega, by simpa using h2, h3⟩
    split at h
    · next q =>
      rcases List.mem_cons.mp h with e | h
      · exact ⟨0, g, by omega, rfl, q⟩
      · exact rest h
    · exact rest h
theorem blamed_wrong {M : Lm} {x : Ln} {k : Int} (hx : x ∈ truths M) (h : k ∈ blameV M) : k ∈ wrongs M x := by
  unfold blameV at h
  split at h
  · obtain ⟨i, g, h1, h2, h3⟩ := mem_blameF h
    exact mem_wrongsF.mpr ⟨i, g, h1, h2, h3 x hx⟩
  · cases h
theorem least_fold (M : Lm) : ∀ (l : List Nat) (m : Int), l.foldl (fun m (n : Nat) => mn m (n : Int)) m ≤ m ∧ (∀ n ∈ l, l.foldl (fun m (n : Nat) => mn m (n : Int)) m ≤ (n : Int)) ∧ (l.foldl (fun m (n : Nat) => mn m (n : Int)) m = m ∨ ∃ n ∈ l, l.foldl (fun m (n : Nat) => mn m (n : Int)) m = (n : Int))
  | [], m => ⟨Int.le_refl _, fun n hn => by simp at hn, .inl rfl⟩
  | a :: l, m => by
    obtain ⟨h1, h2, h3⟩ := least_fold M l (mn m (a : Int))
    have hm := mn_le m (a : Int)
    rw [List.foldl_cons]
    refine ⟨by omega, fun n hn => ?_, ?_⟩
    · rcases List.mem_cons.mp hn with rfl | hn
      · omega
      · exact h2 n hn
    · rcases h3 with h3 | ⟨n, hn, e⟩
      · rcases hm.2.2 with q | q
        · exact .inl (h3.trans q)
        · exact .inr ⟨a, List.mem_cons_self, h3.trans q⟩
      · exact .inr ⟨n, List.mem_cons_of_mem _ hn, e⟩
theorem least_spec (M : Lm) (l : List Ln) : (∀ x ∈ l, leastT M l ≤ ((wrongs M x).length : Int)) ∧ (leastT M l = (M.gs.length : Int) ∨ ∃ x ∈ l, leastT M l = ((wrongs M x).length : Int)) := by
  obtain ⟨h1, h2, h3⟩ := least_fold M (l.map fun x => (wrongs M x).length) (M.gs.length : Int)
  refine ⟨fun x hx => h2 _ (List.mem_map.mpr ⟨x, hx, rfl⟩), ?_⟩
  rcases h3 with h3 | ⟨n, hn, e⟩
  · exact .inl h3
  · obtain ⟨x, hx, rfl⟩ := List.mem_map.mp hn
    exact .inr ⟨x, hx, e⟩
theorem pairs_some {M : Lm} (h : HeadOk M) : ∃ x, x ∈ pairs M := by
  obtain ⟨⟨f1, f2, f3⟩, _, ⟨a1, a2, a3⟩, _⟩ := h
  exact ⟨⟨M.fl, M.al⟩, mem_pairs.mpr ⟨⟨Int.le_refl _, f2⟩, ⟨Int.le_refl _, a2⟩⟩⟩
theorem few_many {M : Lm} (hV : LampOk M) : 0 < manyV M ↔ fewV M ≤ M.wr := by
  unfold manyV fewV
  rw [if_pos hV, if_pos hV]
  obtain ⟨h1, h2⟩ := least_spec M (pairs M)
  constructor
  · intro h
    have hp : 0 < (truths M).length := by omega
    have hm := List.getElem_mem hp
    have := h1 _ (List.mem_filter.mp hm).1
    have h3 := (List.mem_filter.mp hm).2
    simp only [decide_eq_true_eq] at h3
    omega
  · intro h
    have ex : ∃ x ∈ pairs M, ((wrongs M x).length : Int) ≤ M.wr := by
      rcases h2 with e | ⟨x, hx, e⟩
      · obtain ⟨x, hx⟩ := pairs_some hV.1
        have := wrongsF_len x M.gs 0
        have h4 : ((wrongsF x M.gs 0).length : Int) ≤ M.wr := by omega
        exact ⟨x, hx, h4⟩
      · exact ⟨x, hx, by omega⟩
    obtain ⟨x, hx, hw⟩ := ex
    have : x ∈ truths M := List.mem_filter.mpr ⟨hx, decide_eq_true hw⟩
    have := List.length_pos_of_mem this
    omega
theorem ask_many {M : Lm} (hV : LampOk M) : askE M 0 = 0 ↔ 0 < manyV M := by
  unfold manyV
  rw [if_pos hV]
  by_cases hp : (truths M).length = 0
  · rw [askE_3 hV (by decide) hp]
    exact iff_of_false (by decide) (by omega)
  · rw [askE_0 hV (by decide) hp]
    exact iff_of_true rfl (by omega)
set_option maxRecDepth 100000 in
set_option maxHeartbeats 8000000 in

theorem blamed_law (M : Lm) (x : Ln) (A : Option Addr) (c : Nat) (w : World) (hr : Kd.C k64 w A M.gs.length M.gs) :
    Calls Try.prog 11 #[lv M A c, pv x] w fun e w' => e = .returned (.bool true) ∧ Below w.heap.size w w' := by
  have hu3 := Try.underlying3
  have hu24 := Try.underlying24
  have hu26 := Try.underlying26
  have hu27 := Try.underlying27
  have hu54 := Try.underlying54
  obtain ⟨z3, o3⟩ := info_some info3s (by decide)
  obtain ⟨z24, o24⟩ := info_some info24s (by decide)
  refine E.enter (N := 111) Try.func11 rfl Try.ntmps11 (args := [lv M A c, pv x]) (by simp) ?_
  have L := Below.refl w.heap.size w
  refine E.CG.seq ?_
  refine E.CG.list ?_
  refine E.GL.st rfl rfl rfl (E.ST.box rfl rfl fun g2 w2 e2 b2 l2 => ?_)
  have h2_L : w.heap.size ≤ g2 := by rw [e2]; exact L.size
  replace L := below_step L l2
  refine E.GL.st rfl rfl rfl (E.ST.box rfl rfl fun g3 w3 e3 b3 l3 => ?_)
  have h3_L : w.heap.size ≤ g3 := by rw [e3]; exact L.size
  have n3_b2 : g2 ≠ g3 := by have := blk_lt b2; omega
  replace b2 := blk_below b2 l3
  replace L := below_step L l3
  refine E.GL.run rfl rfl rfl (E.Runs.assign rfl rfl) ?_
  refine E.GL.done ?_
  refine E.QG.code ?_
  refine E.CG.seq ?_
  refine E.CG.seq ?_
  refine E.CG.list ?_
  refine E.GL.run rfl rfl rfl (E.Runs.loads (cs := [.int .i64 M.fl, .int .i64 M.fh, .int .i64 M.al, .int .i64 M.ah, .int .i64 M.nl, .int .i64 M.nh, .int .i64 M.ra, .slice A M.gs.length c, .int .i64 M.wr]) rfl rfl hu26 rfl info26s (blk_cells b2)) ?_
  by_cases h16 : ¬ far M ∧ LampOk M
  · have hg6 := ready_few h16.1
    have hbf := blameV_few M
    have hck := checkE_yes h16.2
    have hfm := few_many h16.2
    have ham := ask_many h16.2
    refine E.GL.st rfl rfl rfl (E.ST.call rfl ent18 (E.evc rfl E.evn) ((ready_calls M A c _ true (iff_of_true rfl h16) (Kd.C_below hr L)).mono ?_))
    rintro e w16 ⟨rfl, l16⟩
    refine ⟨_, rfl, ?_⟩
    replace b2 := blk_below b2 l16
    replace b3 := blk_below b3 l16
    replace L := below_step L l16
    refine E.GL.run rfl rfl rfl (E.Runs.not rfl rfl) ?_
    refine E.GL.done ?_
    refine E.QG.code ?_
    refine E.CG.cond_f rfl ?_
    refine E.CG.skip ?_
    refine E.QG.code ?_
    refine E.CG.seq ?_
    refine E.CG.list ?_
    refine E.GL.run rfl rfl rfl (E.Runs.loads (cs := [.int .i64 M.fl, .int .i64 M.fh, .int .i64 M.al, .int .i64 M.ah, .int .i64 M.nl, .int .i64 M.nh, .int .i64 M.ra, .slice A M.gs.length c, .int .i64 M.wr]) rfl rfl hu26 rfl info26s (blk_cells b2)) ?_
    refine E.GL.st rfl rfl rfl (E.ST.call rfl ent36 (E.evc rfl E.evn) ((few_calls M A c _ (Kd.C_below hr L) hg6).mono ?_))
    rintro e w21 ⟨rfl, l21⟩
    refine ⟨_, rfl, ?_⟩
    replace b2 := blk_below b2 l21
    replace b3 := blk_below b3 l21
    replace L := below_step L l21
    refine E.GL.run rfl rfl rfl (E.Runs.move rfl rfl) ?_
    refine E.GL.run rfl rfl rfl (E.Runs.extract rfl rfl rfl) ?_
    refine E.GL.run rfl rfl rfl (E.Runs.extract rfl rfl rfl) ?_
    refine E.GL.run rfl rfl rfl (E.Runs.assign rfl rfl) ?_
    refine E.GL.run rfl rfl rfl (E.Runs.assign rfl rfl) ?_
    refine E.GL.done ?_
    refine E.QG.code ?_
    refine E.CG.seq ?_
    refine E.CG.list ?_
    refine E.GL.run rfl rfl rfl (E.Runs.loads (cs := [.int .i64 M.fl, .int .i64 M.fh, .int .i64 M.al, .int .i64 M.ah, .int .i64 M.nl, .int .i64 M.nh, .int .i64 M.ra, .slice A M.gs.length c, .int .i64 M.wr]) rfl rfl hu26 rfl info26s (blk_cells b2)) ?_
    refine E.GL.st rfl rfl rfl (E.ST.call rfl ent33 (E.evc rfl E.evn) ((many_calls M A c _ (Kd.C_below hr L) hg6).mono ?_))
    rintro e w26 ⟨rfl, l26⟩
    refine ⟨_, rfl, ?_⟩
    replace b2 := blk_below b2 l26
    replace b3 := blk_below b3 l26
    replace L := below_step L l26
    refine E.GL.run rfl rfl rfl (E.Runs.move rfl rfl) ?_
    refine E.GL.run rfl rfl rfl (E.Runs.extract rfl rfl rfl) ?_
    refine E.GL.run rfl rfl rfl (E.Runs.extract rfl rfl rfl) ?_
    refine E.GL.run rfl rfl rfl (E.Runs.assign rfl rfl) ?_
    refine E.GL.run rfl rfl rfl (E.Runs.assign rfl rfl) ?_
    refine E.GL.done ?_
    refine E.QG.code ?_
    refine E.CG.seq ?_
    refine E.CG.list ?_
    refine E.GL.run rfl rfl rfl (E.Runs.loads (cs := [.int .i64 M.fl, .int .i64 M.fh, .int .i64 M.al, .int .i64 M.ah, .int .i64 M.nl, .int .i64 M.nh, .int .i64 M.ra, .slice A M.gs.length c, .int .i64 M.wr]) rfl rfl hu26 rfl info26s (blk_cells b2)) ?_
    refine E.GL.st rfl rfl rfl (E.ST.call rfl ent34 (E.evc rfl E.evn) ((blame_calls M A c _ (Kd.C_below hr L) hg6).mono ?_))
    rintro e w31 ⟨v31, rfl, R31, l31⟩
    refine ⟨_, rfl, ?_⟩
    replace b2 := blk_below b2 l31
    replace b3 := blk_below b3 l31
    replace L := below_step L l31
    have lx := Below.refl w31.heap.size w31
    obtain ⟨A31, c31, hv31⟩ := Kd.R_slice R31
    subst hv31
    obtain ⟨_, _, C31⟩ := Kd.R_reads' R31
    refine E.GL.run rfl rfl rfl (E.Runs.move rfl rfl) ?_
    refine E.GL.run rfl rfl rfl (E.Runs.extract rfl rfl rfl) ?_
    refine E.GL.run rfl rfl rfl (E.Runs.extract rfl rfl rfl) ?_
    refine E.GL.run rfl rfl rfl (E.Runs.assign rfl rfl) ?_
    refine E.GL.run rfl rfl rfl (E.Runs.assign rfl rfl) ?_
    refine E.GL.done ?_
    refine E.QG.code ?_
    refine E.CG.seq ?_
    refine E.CG.seq ?_
    refine E.CG.list ?_
    refine E.GL.run rfl rfl rfl (E.Runs.move rfl rfl) ?_
    refine E.GL.run rfl rfl rfl (E.Runs.neq rfl rfl rfl (E.ne_f hck)) ?_
    refine E.GL.run rfl rfl rfl (E.Runs.move rfl rfl) ?_
    refine E.GL.run rfl rfl rfl (E.Runs.move rfl rfl) ?_
    refine E.GL.run rfl rfl rfl (E.Runs.neq rfl rfl rfl (E.ne_f hck)) ?_
    refine E.GL.run rfl rfl rfl (E.Runs.pick_f rfl rfl rfl) ?_
    refine E.GL.run rfl rfl rfl (E.Runs.move rfl rfl) ?_
    refine E.GL.run rfl rfl rfl (E.Runs.move rfl rfl) ?_
    refine E.GL.cmp rfl rfl rfl (fun _ h => (E.Runs.gtr rfl rfl rfl h)) (fun h42 => ?_) (fun h42 => ?_)
    · refine E.GL.run rfl rfl rfl (E.Runs.move rfl rfl) ?_
      refine E.GL.run rfl rfl rfl (E.Runs.fieldAddr rfl rfl hu26 rfl (by assumption) rfl) ?_
      refine E.GL.run rfl rfl rfl (E.Runs.load rfl rfl hu3 (by first | assumption | exact E.blkc (by assumption) rfl | exact pw_cell_below L (by assumption) | exact pw_cell_below lx (by assumption))) ?_
      refine E.GL.run rfl rfl rfl (E.Runs.leq rfl rfl rfl (decide_eq_true (hfm.mp h42))) ?_
      refine E.GL.run rfl rfl rfl (E.Runs.neqv rfl rfl rfl rfl (fun _ _ _ => rfl) (bool_equal _ _) rfl) ?_
      refine E.GL.run rfl rfl rfl (E.Runs.pick_f rfl rfl rfl) ?_
      refine E.GL.run rfl rfl rfl (E.Runs.move rfl rfl) ?_
      refine E.GL.run rfl rfl rfl (E.Runs.move rfl rfl) ?_
      refine E.GL.run rfl rfl rfl (E.Runs.eql rfl rfl rfl (decide_eq_true (ham.mpr h42))) ?_
      refine E.GL.run rfl rfl rfl (E.Runs.move rfl rfl) ?_
      refine E.GL.run rfl rfl rfl (E.Runs.gtr rfl rfl rfl (decide_eq_true h42)) ?_
      refine E.GL.run rfl rfl rfl (E.Runs.neqv rfl rfl rfl rfl (fun _ _ _ => rfl) (bool_equal _ _) rfl) ?_
      refine E.GL.run rfl rfl rfl (E.Runs.pick_f rfl rfl rfl) ?_
      refine E.GL.run rfl rfl rfl (E.Runs.move rfl rfl) ?_
      refine E.GL.run rfl rfl rfl (E.Runs.move rfl rfl) ?_
      refine E.GL.run rfl rfl rfl (E.Runs.neq rfl rfl rfl (E.ne_f (ham.mpr h42))) ?_
      refine E.GL.run rfl rfl rfl (E.Runs.move rfl rfl) ?_
      refine E.GL.skip rfl rfl rfl ?_
      refine E.GL.skip rfl rfl rfl ?_
      refine E.GL.run rfl rfl rfl (E.Runs.pick_f rfl rfl rfl) ?_
      refine E.GL.run rfl rfl rfl (E.Runs.pick_f rfl rfl rfl) ?_
      refine E.GL.run rfl rfl rfl (E.Runs.move rfl rfl) ?_
      refine E.GL.run rfl rfl rfl (E.Runs.move rfl rfl) ?_
      refine E.GL.run rfl rfl rfl (E.Runs.len rfl rfl hu27) ?_
      refine E.GL.run rfl rfl rfl (E.Runs.fieldAddr rfl rfl hu26 rfl (by assumption) rfl) ?_
      refine E.GL.run rfl rfl rfl (E.Runs.load1 rfl rfl hu24 rfl (by first | assumption | exact E.blkc (by assumption) rfl | exact pw_cell_below L (by assumption) | exact pw_cell_below lx (by assumption))) ?_
      refine E.GL.run rfl rfl rfl (E.Runs.len rfl rfl hu24) ?_
      refine E.GL.run rfl rfl rfl (E.Runs.gtr rfl rfl rfl (decide_eq_false (by omega))) ?_
      refine E.GL.run rfl rfl rfl (E.Runs.pick_f rfl rfl rfl) ?_
      refine E.GL.done ?_
      refine E.QG.code ?_
      refine E.CG.cond_f rfl ?_
      refine E.CG.skip ?_
      refine E.QG.code ?_
      refine E.CG.seq ?_
      refine E.CG.seq ?_
      refine E.CG.list ?_
      refine E.GL.run rfl rfl rfl (E.Runs.loads (cs := [.int .i64 M.fl, .int .i64 M.fh, .int .i64 M.al, .int .i64 M.ah, .int .i64 M.nl, .int .i64 M.nh, .int .i64 M.ra, .slice A M.gs.length c, .int .i64 M.wr]) rfl rfl hu26 rfl info26s (blk_cells b2)) ?_
      refine E.GL.run rfl rfl rfl (E.Runs.loads (cs := [.int .i64 x.f0, .int .i64 x.f1]) rfl rfl hu54 rfl info54s (blk_cells b3)) ?_
      by_cases h74 : x ∈ truths M
      · have hls := (least_spec M (pairs M)).1 x (List.mem_filter.mp h74).1
        have hfe : fewV M = leastT M (pairs M) := if_pos h16.2
        have hwl := wrongsF_len x M.gs 0
        have hwl2 : (wrongs M x).length ≤ M.gs.length := hwl
        refine E.GL.st rfl rfl rfl (E.ST.call rfl ent30 (E.evc rfl (E.evc rfl E.evn)) ((istruth_calls M x A c _ true (iff_of_true rfl h74) h16.2 (Kd.C_below hr L)).mono ?_))
        rintro e w74 ⟨rfl, l74⟩
        refine ⟨_, rfl, ?_⟩
        replace b2 := blk_below b2 l74
        replace b3 := blk_below b3 l74
        replace L := below_step L l74
        replace lx := below_step lx l74
        refine E.GL.run rfl rfl rfl (E.Runs.not rfl rfl) ?_
        refine E.GL.done ?_
        refine E.QG.code ?_
        refine E.CG.cond_f rfl ?_
        refine E.CG.skip ?_
        refine E.QG.code ?_
        refine E.CG.seq ?_
        refine E.CG.list ?_
        refine E.GL.run rfl rfl rfl (E.Runs.loads (cs := [.int .i64 M.fl, .int .i64 M.fh, .int .i64 M.al, .int .i64 M.ah, .int .i64 M.nl, .int .i64 M.nh, .int .i64 M.ra, .slice A M.gs.length c, .int .i64 M.wr]) rfl rfl hu26 rfl info26s (blk_cells b2)) ?_
        refine E.GL.run rfl rfl rfl (E.Runs.loads (cs := [.int .i64 x.f0, .int .i64 x.f1]) rfl rfl hu54 rfl info54s (blk_cells b3)) ?_
        refine E.GL.st rfl rfl rfl (E.ST.call rfl ent41 (E.evc rfl (E.evc rfl E.evn)) ((wrong_calls M x A c _ h16.2 (truths_ok h16.2.1 h74) (Kd.C_below hr L)).mono ?_))
        rintro e w79 ⟨v79, rfl, R79, l79⟩
        refine ⟨_, rfl, ?_⟩
        replace b2 := blk_below b2 l79
        replace b3 := blk_below b3 l79
        replace L := below_step L l79
        replace lx := below_step lx l79
        have lw := Below.refl w79.heap.size w79
        obtain ⟨A79, c79, hv79⟩ := Kd.R_slice R79
        subst hv79
        obtain ⟨_, _, C79⟩ := Kd.R_reads' R79
        refine E.GL.run rfl rfl rfl (E.Runs.assign rfl rfl) ?_
        refine E.GL.done ?_
        refine E.QG.code ?_
        refine E.CG.seq ?_
        refine E.CG.seq ?_
        refine E.CG.list ?_
        refine E.GL.run rfl rfl rfl (E.Runs.move rfl rfl) ?_
        refine E.GL.run rfl rfl rfl (E.Runs.len rfl rfl hu27) ?_
        refine E.GL.run rfl rfl rfl (E.Runs.move rfl rfl) ?_
        refine E.GL.run rfl rfl rfl (E.Runs.lss rfl rfl rfl (decide_eq_false (by omega))) ?_
        refine E.GL.done ?_
        refine E.QG.code ?_
        refine E.CG.cond_f rfl ?_
        refine E.CG.skip ?_
        refine E.QG.code ?_
        refine E.CG.seq ?_
        refine E.CG.seq ?_
        refine E.CG.list ?_
        refine E.GL.run rfl rfl rfl (E.Runs.assign rfl rfl) ?_
        refine E.GL.done ?_
        refine E.QG.code ?_
        refine E.CG.block ?_
        have s14_b2 := b2
        have s14_b3 := b3
        have s14_L := L
        have s14_lx := lx
        have s14_lw := lw
        refine E.CG.loop (fun (i : Nat) => [(9, .slice A31 (blameV M).length c31), (11, .slice A79 (wrongs M x).length c79), (12, .int .i64 i)]) (fun i w' => i ≤ (blameV M).length ∧ Below w79.heap.size w79 w') (fun i => (blameV M).length - i) 0 (E.subc rfl (E.subc rfl (E.subc rfl E.subn))) ⟨Nat.zero_le _, Below.refl _ _⟩ ?_
        rintro i w14 ⟨hi, lq⟩
        replace b2 := blk_below b2 lq
        replace b3 := blk_below b3 lq
        replace L := below_step L lq
        replace lx := below_step lx lq
        replace lw := below_step lw lq
        refine E.CG.seq ?_
        refine E.CG.seq ?_
        refine E.CG.list ?_
        refine E.GL.run rfl rfl rfl (E.Runs.move rfl rfl) ?_
        refine E.GL.run rfl rfl rfl (E.Runs.move rfl rfl) ?_
        refine E.GL.run rfl rfl rfl (E.Runs.len rfl rfl hu27) ?_
        refine E.GL.cmp rfl rfl rfl (fun _ h => (E.Runs.lss rfl rfl rfl h)) (fun h87 => ?_) (fun h87 => ?_)
        · obtain ⟨y, hy⟩ : ∃ y, (blameV M)[i]? = some y := ⟨_, List.getElem?_eq_getElem (by omega)⟩
          obtain ⟨ad, eA, Y⟩ := int_at C31 hy
          have hib : (i : Int) < (blameV M).length := by omega
          obtain ⟨qy, hqy⟩ := List.mem_iff_getElem?.mp (blamed_wrong h74 (List.mem_of_getElem? hy))
          refine E.GL.done ?_
          refine E.QG.code ?_
          refine E.CG.cond_t rfl ?_
          refine E.CG.skip ?_
          refine E.QG.code ?_
          refine E.CG.seq ?_
          refine E.CG.block ?_
          refine E.CG.seq ?_
          refine E.CG.list ?_
          refine E.GL.run rfl rfl rfl (E.Runs.assign rfl rfl) ?_
          refine E.GL.done ?_
          refine E.QG.code ?_
          refine E.CG.seq ?_
          refine E.CG.seq ?_
          refine E.CG.list ?_
          refine E.GL.run rfl rfl rfl (E.Runs.assign rfl rfl) ?_
          refine E.GL.done ?_
          refine E.QG.code ?_
          refine E.CG.block ?_
          have s18_b2 := b2
          have s18_b3 := b3
          have s18_L := L
          have s18_lx := lx
          have s18_lw := lw
          have s18_lq := lq
          refine E.CG.loop2 (fun (j : Nat) (b7 : Bool) => [(9, .slice A31 (blameV M).length c31), (11, .slice A79 (wrongs M x).length c79), (12, .int .i64 i), (13, .bool b7), (14, .int .i64 j)]) (fun j b7 w' => j ≤ (wrongs M x).length ∧ Below w14.heap.size w14 w' ∧ (b7 = true ↔ ∃ q, q < j ∧ (wrongs M x)[q]? = some y)) (fun j b7 => (wrongs M x).length - j) 0 false (E.subc rfl (E.subc rfl (E.subc rfl (E.subc rfl (E.subc rfl E.subn))))) ⟨Nat.zero_le _, Below.refl _ _, iff_of_false Bool.false_ne_true (fun ⟨q, h, _⟩ => by omega)⟩ ?_
          rintro j b7 w18 ⟨hj, lk, hb7⟩
          replace b2 := blk_below b2 lk
          replace b3 := blk_below b3 lk
          replace L := below_step L lk
          replace lx := below_step lx lk
          replace lw := below_step lw lk
          replace lq := below_step lq lk
          refine E.CG.seq ?_
          refine E.CG.seq ?_
          refine E.CG.list ?_
          rcases b7 with _ | _
          · refine E.GL.run rfl rfl rfl (E.Runs.move rfl rfl) ?_
            refine E.GL.run rfl rfl rfl (E.Runs.move rfl rfl) ?_
            refine E.GL.run rfl rfl rfl (E.Runs.len rfl rfl hu27) ?_
            refine E.GL.cmp rfl rfl rfl (fun _ h => (E.Runs.lss rfl rfl rfl h)) (fun h93 => ?_) (fun h93 => ?_)
            · obtain ⟨z, hz⟩ : ∃ y, (wrongs M x)[j]? = some y := ⟨_, List.getElem?_eq_getElem (by omega)⟩
              obtain ⟨ae, eB, Z⟩ := int_at C79 hz
              have hjw : (j : Int) < (wrongs M x).length := by omega
              refine E.GL.done ?_
              refine E.QG.code ?_
              refine E.CG.cond_t rfl ?_
              refine E.CG.skip ?_
              refine E.QG.code ?_
              refine E.CG.seq ?_
              refine E.CG.block ?_
              refine E.CG.quietF (by kernel_rfl) rfl (by kernel_rfl) (by kernel_rfl) ?_
              refine E.GQ.run rfl rfl rfl (E.Runs.move rfl rfl) ?_
              refine E.GQ.run rfl rfl rfl (E.Runs.move rfl rfl) ?_
              refine E.GQ.run rfl rfl rfl (E.Runs.move rfl rfl) ?_
              refine E.GQ.run rfl rfl rfl (E.Runs.move rfl rfl) ?_
              refine E.GQ.run rfl rfl rfl (E.Runs.indexAddrA rfl rfl rfl hu27 (by assumption) (by assumption) (by assumption) (by first | rfl | assumption) rfl) ?_
              refine E.GQ.run rfl rfl rfl (E.Runs.load rfl rfl hu3 (by first | assumption | exact E.blkc (by assumption) rfl | exact pw_cell_below L (by assumption) | exact pw_cell_below lx (by assumption) | exact pw_cell_below lw (by assumption) | exact pw_cell_below lq (by assumption) | exact pw_cell_below lk (by assumption))) ?_
              refine E.GQ.run rfl rfl rfl (E.Runs.move rfl rfl) ?_
              refine E.GQ.run rfl rfl rfl (E.Runs.move rfl rfl) ?_
              refine E.GQ.run rfl rfl rfl (E.Runs.indexAddrA rfl rfl rfl hu27 (by assumption) (by assumption) (by assumption) (by first | rfl | assumption) rfl) ?_
              refine E.GQ.run rfl rfl rfl (E.Runs.load rfl rfl hu3 (by first | assumption | exact E.blkc (by assumption) rfl | exact pw_cell_below L (by assumption) | exact pw_cell_below lx (by assumption) | exact pw_cell_below lw (by assumption) | exact pw_cell_below lq (by assumption) | exact pw_cell_below lk (by assumption))) ?_
              refine E.GQ.cmp rfl rfl rfl (fun _ h => (E.Runs.eql rfl rfl rfl h)) (fun h106 => ?_) (fun h106 => ?_)
              · refine E.GQ.run rfl rfl rfl (E.Runs.pick_f rfl rfl rfl) ?_
                refine E.GQ.run rfl rfl rfl (E.Runs.assign rfl rfl) ?_
                refine E.GQ.doneB fun v20 lD => ?_
                replace b2 := blk_below b2 lD
                replace b3 := blk_below b3 lD
                replace L := below_step L lD
                replace lx := below_step lx lD
                replace lw := below_step lw lD
                replace lq := below_step lq lD
                replace lk := below_step lk lD
                clear lD
                refine E.QG.block_normal ?_
                refine E.QG.code ?_
                refine E.CG.list ?_
                refine E.GL.run rfl rfl rfl (E.Runs.move rfl rfl) ?_
                refine E.GL.run rfl rfl rfl (E.Runs.add rfl rfl rfl (IntWalk.i64_in _ (by omega))) ?_
                refine E.GL.run rfl rfl rfl (E.Runs.assign rfl rfl) ?_
                refine E.GL.done ?_
                exact E.QG.round2 (d := true) (j + 1) true (E.subc rfl (E.subc rfl (E.subc rfl (E.subc rfl (E.subc rfl E.subn))))) ⟨by omega, lk, by first | exact iff_of_true rfl ⟨j, by omega, by rw [hz, h106]⟩ | exact iff_of_true rfl (by obtain ⟨q, q1, q2⟩ := hb7.mp rfl; exact ⟨q, by omega, q2⟩) | exact iff_of_false Bool.false_ne_true (fun ⟨q, q1, q2⟩ => by by_cases e : q = j; exact h106 (by rw [e, hz] at q2; exact Option.some.inj q2); exact Bool.false_ne_true (hb7.mpr ⟨q, by omega, q2⟩))⟩ (by omega)
              · refine E.GQ.run rfl rfl rfl (E.Runs.pick_f rfl rfl rfl) ?_
                refine E.GQ.run rfl rfl rfl (E.Runs.assign rfl rfl) ?_
                refine E.GQ.doneB fun v20 lD => ?_
                replace b2 := blk_below b2 lD
                replace b3 := blk_below b3 lD
                replace L := below_step L lD
                replace lx := below_step lx lD
                replace lw := below_step lw lD
                replace lq := below_step lq lD
                replace lk := below_step lk lD
                clear lD
                refine E.QG.block_normal ?_
                refine E.QG.code ?_
                refine E.CG.list ?_
                refine E.GL.run rfl rfl rfl (E.Runs.move rfl rfl) ?_
                refine E.GL.run rfl rfl rfl (E.Runs.add rfl rfl rfl (IntWalk.i64_in _ (by omega))) ?_
                refine E.GL.run rfl rfl rfl (E.Runs.assign rfl rfl) ?_
                refine E.GL.done ?_
                exact E.QG.round2 (d := true) (j + 1) false (E.subc rfl (E.subc rfl (E.subc rfl (E.subc rfl (E.subc rfl E.subn))))) ⟨by omega, lk, by first | exact iff_of_true rfl ⟨j, by omega, by rw [hz, h106]⟩ | exact iff_of_true rfl (by obtain ⟨q, q1, q2⟩ := hb7.mp rfl; exact ⟨q, by omega, q2⟩) | exact iff_of_false Bool.false_ne_true (fun ⟨q, q1, q2⟩ => by by_cases e : q = j; exact h106 (by rw [e, hz] at q2; exact Option.some.inj q2); exact Bool.false_ne_true (hb7.mpr ⟨q, by omega, q2⟩))⟩ (by omega)
            · have hfound : _ = true := hb7.mpr ⟨qy, by have := (List.getElem?_eq_some_iff.1 hqy).1; omega, hqy⟩
              refine E.GL.done ?_
              refine E.QG.code ?_
              refine E.CG.cond_f rfl ?_
              refine E.CG.exit ?_
              refine E.QG.pass_exit ?_
              refine E.QG.pass_exit ?_
              refine E.QG.block_here ?_
              refine E.QG.code ?_
              refine E.CG.seq ?_
              refine E.CG.list ?_
              refine E.GL.run rfl rfl rfl (E.Runs.move rfl rfl) ?_
              refine E.GL.run rfl rfl rfl (E.Runs.not rfl rfl) ?_
              refine E.GL.done ?_
              refine E.QG.code ?_
              refine E.CG.cond_t rfl ?_
              refine E.CG.seq ?_
              refine E.CG.list ?_
              refine E.GL.run rfl rfl rfl (E.Runs.assign rfl rfl) ?_
              refine E.GL.done ?_
              refine E.QG.code ?_
              refine E.CG.ret ?_
              refine E.QG.block_ret ?_
              refine E.QG.pass_ret ?_
              refine E.QG.pass_ret ?_
              refine E.QG.block_ret ?_
              refine E.QG.pass_ret ?_
              first | exact E.QG.result rfl rfl ⟨rfl, L⟩ | exact absurd hfound Bool.false_ne_true | fail
          · refine E.GL.run rfl rfl rfl (E.Runs.move rfl rfl) ?_
            refine E.GL.run rfl rfl rfl (E.Runs.move rfl rfl) ?_
            refine E.GL.run rfl rfl rfl (E.Runs.len rfl rfl hu27) ?_
            refine E.GL.cmp rfl rfl rfl (fun _ h => (E.Runs.lss rfl rfl rfl h)) (fun h93 => ?_) (fun h93 => ?_)
            · obtain ⟨z, hz⟩ : ∃ y, (wrongs M x)[j]? = some y := ⟨_, List.getElem?_eq_getElem (by omega)⟩
              obtain ⟨ae, eB, Z⟩ := int_at C79 hz
              have hjw : (j : Int) < (wrongs M x).length := by omega
              refine E.GL.done ?_
              refine E.QG.code ?_
              refine E.CG.cond_t rfl ?_
              refine E.CG.skip ?_
              refine E.QG.code ?_
              refine E.CG.seq ?_
              refine E.CG.block ?_
              refine E.CG.quietF (by kernel_rfl) rfl (by kernel_rfl) (by kernel_rfl) ?_
              refine E.GQ.run rfl rfl rfl (E.Runs.move rfl rfl) ?_
              refine E.GQ.run rfl rfl rfl (E.Runs.move rfl rfl) ?_
              refine E.GQ.skip rfl rfl rfl ?_
              refine E.GQ.skip rfl rfl rfl ?_
              refine E.GQ.skip rfl rfl rfl ?_
              refine E.GQ.skip rfl rfl rfl ?_
              refine E.GQ.skip rfl rfl rfl ?_
              refine E.GQ.skip rfl rfl rfl ?_
              refine E.GQ.skip rfl rfl rfl ?_
              refine E.GQ.skip rfl rfl rfl ?_
              refine E.GQ.skip rfl rfl rfl ?_
              refine E.GQ.run rfl rfl rfl (E.Runs.pick_t rfl rfl rfl) ?_
              refine E.GQ.run rfl rfl rfl (E.Runs.assign rfl rfl) ?_
              refine E.GQ.doneB fun v20 lD => ?_
              replace b2 := blk_below b2 lD
              replace b3 := blk_below b3 lD
              replace L := below_step L lD
              replace lx := below_step lx lD
              replace lw := below_step lw lD
              replace lq := below_step lq lD
              replace lk := below_step lk lD
              clear lD
              refine E.QG.block_normal ?_
              refine E.QG.code ?_
              refine E.CG.list ?_
              refine E.GL.run rfl rfl rfl (E.Runs.move rfl rfl) ?_
              refine E.GL.run rfl rfl rfl (E.Runs.add rfl rfl rfl (IntWalk.i64_in _ (by omega))) ?_
              refine E.GL.run rfl rfl rfl (E.Runs.assign rfl rfl) ?_
              refine E.GL.done ?_
              exact E.QG.round2 (d := true) (j + 1) true (E.subc rfl (E.subc rfl (E.subc rfl (E.subc rfl (E.subc rfl E.subn))))) ⟨by omega, lk, by first | exact iff_of_true rfl ⟨j, by omega, by rw [hz, h106]⟩ | exact iff_of_true rfl (by obtain ⟨q, q1, q2⟩ := hb7.mp rfl; exact ⟨q, by omega, q2⟩) | exact iff_of_false Bool.false_ne_true (fun ⟨q, q1, q2⟩ => by by_cases e : q = j; exact h106 (by rw [e, hz] at q2; exact Option.some.inj q2); exact Bool.false_ne_true (hb7.mpr ⟨q, by omega, q2⟩))⟩ (by omega)
            · have hfound : _ = true := hb7.mpr ⟨qy, by have := (List.getElem?_eq_some_iff.1 hqy).1; omega, hqy⟩
              refine E.GL.done ?_
              refine E.QG.code ?_
              refine E.CG.cond_f rfl ?_
              refine E.CG.exit ?_
              refine E.QG.pass_exit ?_
              refine E.QG.pass_exit ?_
              refine E.QG.block_here ?_
              refine E.QG.code ?_
              refine E.CG.seq ?_
              refine E.CG.list ?_
              refine E.GL.run rfl rfl rfl (E.Runs.move rfl rfl) ?_
              refine E.GL.run rfl rfl rfl (E.Runs.not rfl rfl) ?_
              refine E.GL.done ?_
              refine E.QG.code ?_
              refine E.CG.cond_f rfl ?_
              refine E.CG.skip ?_
              refine E.QG.block_normal ?_
              refine E.QG.code ?_
              refine E.CG.list ?_
              refine E.GL.run rfl rfl rfl (E.Runs.move rfl rfl) ?_
              refine E.GL.run rfl rfl rfl (E.Runs.add rfl rfl rfl (IntWalk.i64_in _ (by omega))) ?_
              refine E.GL.run rfl rfl rfl (E.Runs.assign rfl rfl) ?_
              refine E.GL.done ?_
              exact E.QG.round (i + 1) (E.subc rfl (E.subc rfl (E.subc rfl E.subn))) ⟨by omega, lq⟩ (by omega)
        · refine E.GL.done ?_
          refine E.QG.code ?_
          refine E.CG.cond_f rfl ?_
          refine E.CG.exit ?_
          refine E.QG.pass_exit ?_
          refine E.QG.pass_exit ?_
          refine E.QG.block_here ?_
          refine E.QG.code ?_
          refine E.CG.seq ?_
          refine E.CG.list ?_
          refine E.GL.st rfl rfl rfl (E.ST.call rfl ent13 E.evn ((works_calls _).mono ?_))
          rintro e w110 ⟨rfl, l110⟩
          refine ⟨_, rfl, ?_⟩
          replace b2 := blk_below b2 l110
          replace b3 := blk_below b3 l110
          replace L := below_step L l110
          replace lx := below_step lx l110
          replace lw := below_step lw l110
          refine E.GL.run rfl rfl rfl (E.Runs.assign rfl rfl) ?_
          refine E.GL.done ?_
          refine E.QG.code ?_
          refine E.CG.ret ?_
          first | exact E.QG.result rfl rfl ⟨rfl, L⟩ | exact absurd hfound Bool.false_ne_true | fail
      · refine E.GL.st rfl rfl rfl (E.ST.call rfl ent30 (E.evc rfl (E.evc rfl E.evn)) ((istruth_calls M x A c _ false (iff_of_false Bool.false_ne_true h74) h16.2 (Kd.C_below hr L)).mono ?_))
        rintro e w74 ⟨rfl, l74⟩
        refine ⟨_, rfl, ?_⟩
        replace b2 := blk_below b2 l74
        replace b3 := blk_below b3 l74
        replace L := below_step L l74
        replace lx := below_step lx l74
        refine E.GL.run rfl rfl rfl (E.Runs.not rfl rfl) ?_
        refine E.GL.done ?_
        refine E.QG.code ?_
        refine E.CG.cond_t rfl ?_
        refine E.CG.seq ?_
        refine E.CG.list ?_
        refine E.GL.st rfl rfl rfl (E.ST.call rfl ent13 E.evn ((works_calls _).mono ?_))
        rintro e w76 ⟨rfl, l76⟩
        refine ⟨_, rfl, ?_⟩
        replace b2 := blk_below b2 l76
        replace b3 := blk_below b3 l76
        replace L := below_step L l76
        replace lx := below_step lx l76
        refine E.GL.run rfl rfl rfl (E.Runs.assign rfl rfl) ?_
        refine E.GL.done ?_
        refine E.QG.code ?_
        refine E.CG.ret ?_
        refine E.QG.pass_ret ?_
        first | exact E.QG.result rfl rfl ⟨rfl, L⟩ | exact absurd hfound Bool.false_ne_true | fail
    · refine E.GL.run rfl rfl rfl (E.Runs.move rfl rfl) ?_
      refine E.GL.run rfl rfl rfl (E.Runs.fieldAddr rfl rfl hu26 rfl (by assumption) rfl) ?_
      refine E.GL.run rfl rfl rfl (E.Runs.load rfl rfl hu3 (by first | assumption | exact E.blkc (by assumption) rfl | exact pw_cell_below L (by assumption) | exact pw_cell_below lx (by assumption))) ?_
      refine E.GL.run rfl rfl rfl (E.Runs.leq rfl rfl rfl (decide_eq_false (fun k => h42 (hfm.mpr k)))) ?_
      refine E.GL.run rfl rfl rfl (E.Runs.neqv rfl rfl rfl rfl (fun _ _ _ => rfl) (bool_equal _ _) rfl) ?_
      refine E.GL.run rfl rfl rfl (E.Runs.pick_f rfl rfl rfl) ?_
      refine E.GL.run rfl rfl rfl (E.Runs.move rfl rfl) ?_
      refine E.GL.run rfl rfl rfl (E.Runs.move rfl rfl) ?_
      refine E.GL.run rfl rfl rfl (E.Runs.eql rfl rfl rfl (decide_eq_false (fun k => h42 (ham.mp k)))) ?_
      refine E.GL.run rfl rfl rfl (E.Runs.move rfl rfl) ?_
      refine E.GL.run rfl rfl rfl (E.Runs.gtr rfl rfl rfl (decide_eq_false h42)) ?_
      refine E.GL.run rfl rfl rfl (E.Runs.neqv rfl rfl rfl rfl (fun _ _ _ => rfl) (bool_equal _ _) rfl) ?_
      refine E.GL.run rfl rfl rfl (E.Runs.pick_f rfl rfl rfl) ?_
      refine E.GL.run rfl rfl rfl (E.Runs.move rfl rfl) ?_
      refine E.GL.run rfl rfl rfl (E.Runs.move rfl rfl) ?_
      refine E.GL.run rfl rfl rfl (E.Runs.neq rfl rfl rfl (E.ne_t (fun k => h42 (ham.mp k)))) ?_
      refine E.GL.run rfl rfl rfl (E.Runs.move rfl rfl) ?_
      refine E.GL.run rfl rfl rfl (E.Runs.move rfl rfl) ?_
      refine E.GL.run rfl rfl rfl (E.Runs.neq rfl rfl rfl (E.ne_f (askE_3_0 h16.2 (by decide) (fun k => h42 (ham.mp k))))) ?_
      refine E.GL.run rfl rfl rfl (E.Runs.pick_t rfl rfl rfl) ?_
      refine E.GL.run rfl rfl rfl (E.Runs.pick_f rfl rfl rfl) ?_
      refine E.GL.run rfl rfl rfl (E.Runs.move rfl rfl) ?_
      refine E.GL.run rfl rfl rfl (E.Runs.move rfl rfl) ?_
      refine E.GL.run rfl rfl rfl (E.Runs.len rfl rfl hu27) ?_
      refine E.GL.run rfl rfl rfl (E.Runs.fieldAddr rfl rfl hu26 rfl (by assumption) rfl) ?_
      refine E.GL.run rfl rfl rfl (E.Runs.load1 rfl rfl hu24 rfl (by first | assumption | exact E.blkc (by assumption) rfl | exact pw_cell_below L (by assumption) | exact pw_cell_below lx (by assumption))) ?_
      refine E.GL.run rfl rfl rfl (E.Runs.len rfl rfl hu24) ?_
      refine E.GL.run rfl rfl rfl (E.Runs.gtr rfl rfl rfl (decide_eq_false (by omega))) ?_
      refine E.GL.run rfl rfl rfl (E.Runs.pick_f rfl rfl rfl) ?_
      refine E.GL.done ?_
      refine E.QG.code ?_
      refine E.CG.cond_f rfl ?_
      refine E.CG.skip ?_
      refine E.QG.code ?_
      refine E.CG.seq ?_
      refine E.CG.seq ?_
      refine E.CG.list ?_
      refine E.GL.run rfl rfl rfl (E.Runs.loads (cs := [.int .i64 M.fl, .int .i64 M.fh, .int .i64 M.al, .int .i64 M.ah, .int .i64 M.nl, .int .i64 M.nh, .int .i64 M.ra, .slice A M.gs.length c, .int .i64 M.wr]) rfl rfl hu26 rfl info26s (blk_cells b2)) ?_
      refine E.GL.run rfl rfl rfl (E.Runs.loads (cs := [.int .i64 x.f0, .int .i64 x.f1]) rfl rfl hu54 rfl info54s (blk_cells b3)) ?_
      by_cases h74 : x ∈ truths M
      · have hls := (least_spec M (pairs M)).1 x (List.mem_filter.mp h74).1
        have hfe : fewV M = leastT M (pairs M) := if_pos h16.2
        have hwl := wrongsF_len x M.gs 0
        have hwl2 : (wrongs M x).length ≤ M.gs.length := hwl
        refine E.GL.st rfl rfl rfl (E.ST.call rfl ent30 (E.evc rfl (E.evc rfl E.evn)) ((istruth_calls M x A c _ true (iff_of_true rfl h74) h16.2 (Kd.C_below hr L)).mono ?_))
        rintro e w74 ⟨rfl, l74⟩
        refine ⟨_, rfl, ?_⟩
        replace b2 := blk_below b2 l74
        replace b3 := blk_below b3 l74
        replace L := below_step L l74
        replace lx := below_step lx l74
        refine E.GL.run rfl rfl rfl (E.Runs.not rfl rfl) ?_
        refine E.GL.done ?_
        refine E.QG.code ?_
        refine E.CG.cond_f rfl ?_
        refine E.CG.skip ?_
        refine E.QG.code ?_
        refine E.CG.seq ?_
        refine E.CG.list ?_
        refine E.GL.run rfl rfl rfl (E.Runs.loads (cs := [.int .i64 M.fl, .int .i64 M.fh, .int .i64 M.al, .int .i64 M.ah, .int .i64 M.nl, .int .i64 M.nh, .int .i64 M.ra, .slice A M.gs.length c, .int .i64 M.wr]) rfl rfl hu26 rfl info26s (blk_cells b2)) ?_
        refine E.GL.run rfl rfl rfl (E.Runs.loads (cs := [.int .i64 x.f0, .int .i64 x.f1]) rfl rfl hu54 rfl info54s (blk_cells b3)) ?_
        refine E.GL.st rfl rfl rfl (E.ST.call rfl ent41 (E.evc rfl (E.evc rfl E.evn)) ((wrong_calls M x A c _ h16.2 (truths_ok h16.2.1 h74) (Kd.C_below hr L)).mono ?_))
        rintro e w79 ⟨v79, rfl, R79, l79⟩
        refine ⟨_, rfl, ?_⟩
        replace b2 := blk_below b2 l79
        replace b3 := blk_below b3 l79
        replace L := below_step L l79
        replace lx := below_step lx l79
        have lw := Below.refl w79.heap.size w79
        obtain ⟨A79, c79, hv79⟩ := Kd.R_slice R79
        subst hv79
        obtain ⟨_, _, C79⟩ := Kd.R_reads' R79
        refine E.GL.run rfl rfl rfl (E.Runs.assign rfl rfl) ?_
        refine E.GL.done ?_
        refine E.QG.code ?_
        refine E.CG.seq ?_
        refine E.CG.seq ?_
        refine E.CG.list ?_
        refine E.GL.run rfl rfl rfl (E.Runs.move rfl rfl) ?_
        refine E.GL.run rfl rfl rfl (E.Runs.len rfl rfl hu27) ?_
        refine E.GL.run rfl rfl rfl (E.Runs.move rfl rfl) ?_
        refine E.GL.run rfl rfl rfl (E.Runs.lss rfl rfl rfl (decide_eq_false (by omega))) ?_
        refine E.GL.done ?_
        refine E.QG.code ?_
        refine E.CG.cond_f rfl ?_
        refine E.CG.skip ?_
        refine E.QG.code ?_
        refine E.CG.seq ?_
        refine E.CG.seq ?_
        refine E.CG.list ?_
        refine E.GL.run rfl rfl rfl (E.Runs.assign rfl rfl) ?_
        refine E.GL.done ?_
        refine E.QG.code ?_
        refine E.CG.block ?_
        have s14_b2 := b2
        have s14_b3 := b3
        have s14_L := L
        have s14_lx := lx
        have s14_lw := lw
        refine E.CG.loop (fun (i : Nat) => [(9, .slice A31 (blameV M).length c31), (11, .slice A79 (wrongs M x).length c79), (12, .int .i64 i)]) (fun i w' => i ≤ (blameV M).length ∧ Below w79.heap.size w79 w') (fun i => (blameV M).length - i) 0 (E.subc rfl (E.subc rfl (E.subc rfl E.subn))) ⟨Nat.zero_le _, Below.refl _ _⟩ ?_
        rintro i w14 ⟨hi, lq⟩
        replace b2 := blk_below b2 lq
        replace b3 := blk_below b3 lq
        replace L := below_step L lq
        replace lx := below_step lx lq
        replace lw := below_step lw lq
        refine E.CG.seq ?_
        refine E.CG.seq ?_
        refine E.CG.list ?_
        refine E.GL.run rfl rfl rfl (E.Runs.move rfl rfl) ?_
        refine E.GL.run rfl rfl rfl (E.Runs.move rfl rfl) ?_
        refine E.GL.run rfl rfl rfl (E.Runs.len rfl rfl hu27) ?_
        refine E.GL.cmp rfl rfl rfl (fun _ h => (E.Runs.lss rfl rfl rfl h)) (fun h87 => ?_) (fun h87 => ?_)
        · obtain ⟨y, hy⟩ : ∃ y, (blameV M)[i]? = some y := ⟨_, List.getElem?_eq_getElem (by omega)⟩
          obtain ⟨ad, eA, Y⟩ := int_at C31 hy
          have hib : (i : Int) < (blameV M).length := by omega
          obtain ⟨qy, hqy⟩ := List.mem_iff_getElem?.mp (blamed_wrong h74 (List.mem_of_getElem? hy))
          refine E.GL.done ?_
          refine E.QG.code ?_
          refine E.CG.cond_t rfl ?_
          refine E.CG.skip ?_
          refine E.QG.code ?_
          refine E.CG.seq ?_
          refine E.CG.block ?_
          refine E.CG.seq ?_
          refine E.CG.list ?_
          refine E.GL.run rfl rfl rfl (E.Runs.assign rfl rfl) ?_
          refine E.GL.done ?_
          refine E.QG.code ?_
          refine E.CG.seq ?_
          refine E.CG.seq ?_
          refine E.CG.list ?_
          refine E.GL.run rfl rfl rfl (E.Runs.assign rfl rfl) ?_
          refine E.GL.done ?_
          refine E.QG.code ?_
          refine E.CG.block ?_
          have s18_b2 := b2
          have s18_b3 := b3
          have s18_L := L
          have s18_lx := lx
          have s18_lw := lw
          have s18_lq := lq
          refine E.CG.loop2 (fun (j : Nat) (b7 : Bool) => [(9, .slice A31 (blameV M).length c31), (11, .slice A79 (wrongs M x).length c79), (12, .int .i64 i), (13, .bool b7), (14, .int .i64 j)]) (fun j b7 w' => j ≤ (wrongs M x).length ∧ Below w14.heap.size w14 w' ∧ (b7 = true ↔ ∃ q, q < j ∧ (wrongs M x)[q]? = some y)) (fun j b7 => (wrongs M x).length - j) 0 false (E.subc rfl (E.subc rfl (E.subc rfl (E.subc rfl (E.subc rfl E.subn))))) ⟨Nat.zero_le _, Below.refl _ _, iff_of_false Bool.false_ne_true (fun ⟨q, h, _⟩ => by omega)⟩ ?_
          rintro j b7 w18 ⟨hj, lk, hb7⟩
          replace b2 := blk_below b2 lk
          replace b3 := blk_below b3 lk
          replace L := below_step L lk
          replace lx := below_step lx lk
          replace lw := below_step lw lk
          replace lq := below_step lq lk
          refine E.CG.seq ?_
          refine E.CG.seq ?_
          refine E.CG.list ?_
          rcases b7 with _ | _
          · refine E.GL.run rfl rfl rfl (E.Runs.move rfl rfl) ?_
            refine E.GL.run rfl rfl rfl (E.Runs.move rfl rfl) ?_
            refine E.GL.run rfl rfl rfl (E.Runs.len rfl rfl hu27) ?_
            refine E.GL.cmp rfl rfl rfl (fun _ h => (E.Runs.lss rfl rfl rfl h)) (fun h93 => ?_) (fun h93 => ?_)
            · obtain ⟨z, hz⟩ : ∃ y, (wrongs M x)[j]? = some y := ⟨_, List.getElem?_eq_getElem (by omega)⟩
              obtain ⟨ae, eB, Z⟩ := int_at C79 hz
              have hjw : (j : Int) < (wrongs M x).length := by omega
              refine E.GL.done ?_
              refine E.QG.code ?_
              refine E.CG.cond_t rfl ?_
              refine E.CG.skip ?_
              refine E.QG.code ?_
              refine E.CG.seq ?_
              refine E.CG.block ?_
              refine E.CG.quietF (by kernel_rfl) rfl (by kernel_rfl) (by kernel_rfl) ?_
              refine E.GQ.run rfl rfl rfl (E.Runs.move rfl rfl) ?_
              refine E.GQ.run rfl rfl rfl (E.Runs.move rfl rfl) ?_
              refine E.GQ.run rfl rfl rfl (E.Runs.move rfl rfl) ?_
              refine E.GQ.run rfl rfl rfl (E.Runs.move rfl rfl) ?_
              refine E.GQ.run rfl rfl rfl (E.Runs.indexAddrA rfl rfl rfl hu27 (by assumption) (by assumption) (by assumption) (by first | rfl | assumption) rfl) ?_
              refine E.GQ.run rfl rfl rfl (E.Runs.load rfl rfl hu3 (by first | assumption | exact E.blkc (by assumption) rfl | exact pw_cell_below L (by assumption) | exact pw_cell_below lx (by assumption) | exact pw_cell_below lw (by assumption) | exact pw_cell_below lq (by assumption) | exact pw_cell_below lk (by assumption))) ?_
              refine E.GQ.run rfl rfl rfl (E.Runs.move rfl rfl) ?_
              refine E.GQ.run rfl rfl rfl (E.Runs.move rfl rfl) ?_
              refine E.GQ.run rfl rfl rfl (E.Runs.indexAddrA rfl rfl rfl hu27 (by assumption) (by assumption) (by assumption) (by first | rfl | assumption) rfl) ?_
              refine E.GQ.run rfl rfl rfl (E.Runs.load rfl rfl hu3 (by first | assumption | exact E.blkc (by assumption) rfl | exact pw_cell_below L (by assumption) | exact pw_cell_below lx (by assumption) | exact pw_cell_below lw (by assumption) | exact pw_cell_below lq (by assumption) | exact pw_cell_below lk (by assumption))) ?_
              refine E.GQ.cmp rfl rfl rfl (fun _ h => (E.Runs.eql rfl rfl rfl h)) (fun h106 => ?_) (fun h106 => ?_)
              · refine E.GQ.run rfl rfl rfl (E.Runs.pick_f rfl rfl rfl) ?_
                refine E.GQ.run rfl rfl rfl (E.Runs.assign rfl rfl) ?_
                refine E.GQ.doneB fun v20 lD => ?_
                replace b2 := blk_below b2 lD
                replace b3 := blk_below b3 lD
                replace L := below_step L lD
                replace lx := below_step lx lD
                replace lw := below_step lw lD
                replace lq := below_step lq lD
                replace lk := below_step lk lD
                clear lD
                refine E.QG.block_normal ?_
                refine E.QG.code ?_
                refine E.CG.list ?_
                refine E.GL.run rfl rfl rfl (E.Runs.move rfl rfl) ?_
                refine E.GL.run rfl rfl rfl (E.Runs.add rfl rfl rfl (IntWalk.i64_in _ (by omega))) ?_
                refine E.GL.run rfl rfl rfl (E.Runs.assign rfl rfl) ?_
                refine E.GL.done ?_
                exact E.QG.round2 (d := true) (j + 1) true (E.subc rfl (E.subc rfl (E.subc rfl (E.subc rfl (E.subc rfl E.subn))))) ⟨by omega, lk, by first | exact iff_of_true rfl ⟨j, by omega, by rw [hz, h106]⟩ | exact iff_of_true rfl (by obtain ⟨q, q1, q2⟩ := hb7.mp rfl; exact ⟨q, by omega, q2⟩) | exact iff_of_false Bool.false_ne_true (fun ⟨q, q1, q2⟩ => by by_cases e : q = j; exact h106 (by rw [e, hz] at q2; exact Option.some.inj q2); exact Bool.false_ne_true (hb7.mpr ⟨q, by omega, q2⟩))⟩ (by omega)
              · refine E.GQ.run rfl rfl rfl (E.Runs.pick_f rfl rfl rfl) ?_
                refine E.GQ.run rfl rfl rfl (E.Runs.assign rfl rfl) ?_
                refine E.GQ.doneB fun v20 lD => ?_
                replace b2 := blk_below b2 lD
                replace b3 := blk_below b3 lD
                replace L := below_step L lD
                replace lx := below_step lx lD
                replace lw := below_step lw lD
                replace lq := below_step lq lD
                replace lk := below_step lk lD
                clear lD
                refine E.QG.block_normal ?_
                refine E.QG.code ?_
                refine E.CG.list ?_
                refine E.GL.run rfl rfl rfl (E.Runs.move rfl rfl) ?_
                refine E.GL.run rfl rfl rfl (E.Runs.add rfl rfl rfl (IntWalk.i64_in _ (by omega))) ?_
                refine E.GL.run rfl rfl rfl (E.Runs.assign rfl rfl) ?_
                refine E.GL.done ?_
                exact E.QG.round2 (d := true) (j + 1) false (E.subc rfl (E.subc rfl (E.subc rfl (E.subc rfl (E.subc rfl E.subn))))) ⟨by omega, lk, by first | exact iff_of_true rfl ⟨j, by omega, by rw [hz, h106]⟩ | exact iff_of_true rfl (by obtain ⟨q, q1, q2⟩ := hb7.mp rfl; exact ⟨q, by omega, q2⟩) | exact iff_of_false Bool.false_ne_true (fun ⟨q, q1, q2⟩ => by by_cases e : q = j; exact h106 (by rw [e, hz] at q2; exact Option.some.inj q2); exact Bool.false_ne_true (hb7.mpr ⟨q, by omega, q2⟩))⟩ (by omega)
            · have hfound : _ = true := hb7.mpr ⟨qy, by have := (List.getElem?_eq_some_iff.1 hqy).1; omega, hqy⟩
              refine E.GL.done ?_
              refine E.QG.code ?_
              refine E.CG.cond_f rfl ?_
              refine E.CG.exit ?_
              refine E.QG.pass_exit ?_
              refine E.QG.pass_exit ?_
              refine E.QG.block_here ?_
              refine E.QG.code ?_
              refine E.CG.seq ?_
              refine E.CG.list ?_
              refine E.GL.run rfl rfl rfl (E.Runs.move rfl rfl) ?_
              refine E.GL.run rfl rfl rfl (E.Runs.not rfl rfl) ?_
              refine E.GL.done ?_
              refine E.QG.code ?_
              refine E.CG.cond_t rfl ?_
              refine E.CG.seq ?_
              refine E.CG.list ?_
              refine E.GL.run rfl rfl rfl (E.Runs.assign rfl rfl) ?_
              refine E.GL.done ?_
              refine E.QG.code ?_
              refine E.CG.ret ?_
              refine E.QG.block_ret ?_
              refine E.QG.pass_ret ?_
              refine E.QG.pass_ret ?_
              refine E.QG.block_ret ?_
              refine E.QG.pass_ret ?_
              first | exact E.QG.result rfl rfl ⟨rfl, L⟩ | exact absurd hfound Bool.false_ne_true | fail
          · refine E.GL.run rfl rfl rfl (E.Runs.move rfl rfl) ?_
            refine E.GL.run rfl rfl rfl (E.Runs.move rfl rfl) ?_
            refine E.GL.run rfl rfl rfl (E.Runs.len rfl rfl hu27) ?_
            refine E.GL.cmp rfl rfl rfl (fun _ h => (E.Runs.lss rfl rfl rfl h)) (fun h93 => ?_) (fun h93 => ?_)
            · obtain ⟨z, hz⟩ : ∃ y, (wrongs M x)[j]? = some y := ⟨_, List.getElem?_eq_getElem (by omega)⟩
              obtain ⟨ae, eB, Z⟩ := int_at C79 hz
              have hjw : (j : Int) < (wrongs M x).length := by omega
              refine E.GL.done ?_
              refine E.QG.code ?_
              refine E.CG.cond_t rfl ?_
              refine E.CG.skip ?_
              refine E.QG.code ?_
              refine E.CG.seq ?_
              refine E.CG.block ?_
              refine E.CG.quietF (by kernel_rfl) rfl (by kernel_rfl) (by kernel_rfl) ?_
              refine E.GQ.run rfl rfl rfl (E.Runs.move rfl rfl) ?_
              refine E.GQ.run rfl rfl rfl (E.Runs.move rfl rfl) ?_
              refine E.GQ.skip rfl rfl rfl ?_
              refine E.GQ.skip rfl rfl rfl ?_
              refine E.GQ.skip rfl rfl rfl ?_
              refine E.GQ.skip rfl rfl rfl ?_
              refine E.GQ.skip rfl rfl rfl ?_
              refine E.GQ.skip rfl rfl rfl ?_
              refine E.GQ.skip rfl rfl rfl ?_
              refine E.GQ.skip rfl rfl rfl ?_
              refine E.GQ.skip rfl rfl rfl ?_
              refine E.GQ.run rfl rfl rfl (E.Runs.pick_t rfl rfl rfl) ?_
              refine E.GQ.run rfl rfl rfl (E.Runs.assign rfl rfl) ?_
              refine E.GQ.doneB fun v20 lD => ?_
              replace b2 := blk_below b2 lD
              replace b3 := blk_below b3 lD
              replace L := below_step L lD
              replace lx := below_step lx lD
              replace lw := below_step lw lD
              replace lq := below_step lq lD
              replace lk := below_step lk lD
              clear lD
              refine E.QG.block_normal ?_
              refine E.QG.code ?_
              refine E.CG.list ?_
              refine E.GL.run rfl rfl rfl (E.Runs.move rfl rfl) ?_
              refine E.GL.run rfl rfl rfl (E.Runs.add rfl rfl rfl (IntWalk.i64_in _ (by omega))) ?_
              refine E.GL.run rfl rfl rfl (E.Runs.assign rfl rfl) ?_
              refine E.GL.done ?_
              exact E.QG.round2 (d := true) (j + 1) true (E.subc rfl (E.subc rfl (E.subc rfl (E.subc rfl (E.subc rfl E.subn))))) ⟨by omega, lk, by first | exact iff_of_true rfl ⟨j, by omega, by rw [hz, h106]⟩ | exact iff_of_true rfl (by obtain ⟨q, q1, q2⟩ := hb7.mp rfl; exact ⟨q, by omega, q2⟩) | exact iff_of_false Bool.false_ne_true (fun ⟨q, q1, q2⟩ => by by_cases e : q = j; exact h106 (by rw [e, hz] at q2; exact Option.some.inj q2); exact Bool.false_ne_true (hb7.mpr ⟨q, by omega, q2⟩))⟩ (by omega)
            · have hfound : _ = true := hb7.mpr ⟨qy, by have := (List.getElem?_eq_some_iff.1 hqy).1; omega, hqy⟩
              refine E.GL.done ?_
              refine E.QG.code ?_
              refine E.CG.cond_f rfl ?_
              refine E.CG.exit ?_
              refine E.QG.pass_exit ?_
              refine E.QG.pass_exit ?_
              refine E.QG.block_here ?_
              refine E.QG.code ?_
              refine E.CG.seq ?_
              refine E.CG.list ?_
              refine E.GL.run rfl rfl rfl (E.Runs.move rfl rfl) ?_
              refine E.GL.run rfl rfl rfl (E.Runs.not rfl rfl) ?_
              refine E.GL.done ?_
              refine E.QG.code ?_
              refine E.CG.cond_f rfl ?_
              refine E.CG.skip ?_
              refine E.QG.block_normal ?_
              refine E.QG.code ?_
              refine E.CG.list ?_
              refine E.GL.run rfl rfl rfl (E.Runs.move rfl rfl) ?_
              refine E.GL.run rfl rfl rfl (E.Runs.add rfl rfl rfl (IntWalk.i64_in _ (by omega))) ?_
              refine E.GL.run rfl rfl rfl (E.Runs.assign rfl rfl) ?_
              refine E.GL.done ?_
              exact E.QG.round (i + 1) (E.subc rfl (E.subc rfl (E.subc rfl E.subn))) ⟨by omega, lq⟩ (by omega)
        · refine E.GL.done ?_
          refine E.QG.code ?_
          refine E.CG.cond_f rfl ?_
          refine E.CG.exit ?_
          refine E.QG.pass_exit ?_
          refine E.QG.pass_exit ?_
          refine E.QG.block_here ?_
          refine E.QG.code ?_
          refine E.CG.seq ?_
          refine E.CG.list ?_
          refine E.GL.st rfl rfl rfl (E.ST.call rfl ent13 E.evn ((works_calls _).mono ?_))
          rintro e w110 ⟨rfl, l110⟩
          refine ⟨_, rfl, ?_⟩
          replace b2 := blk_below b2 l110
          replace b3 := blk_below b3 l110
          replace L := below_step L l110
          replace lx := below_step lx l110
          replace lw := below_step lw l110
          refine E.GL.run rfl rfl rfl (E.Runs.assign rfl rfl) ?_
          refine E.GL.done ?_
          refine E.QG.code ?_
          refine E.CG.ret ?_
          first | exact E.QG.result rfl rfl ⟨rfl, L⟩ | exact absurd hfound Bool.false_ne_true | fail
      · refine E.GL.st rfl rfl rfl (E.ST.call rfl ent30 (E.evc rfl (E.evc rfl E.evn)) ((istruth_calls M x A c _ false (iff_of_false Bool.false_ne_true h74) h16.2 (Kd.C_below hr L)).mono ?_))
        rintro e w74 ⟨rfl, l74⟩
        refine ⟨_, rfl, ?_⟩
        replace b2 := blk_below b2 l74
        replace b3 := blk_below b3 l74
        replace L := below_step L l74
        replace lx := below_step lx l74
        refine E.GL.run rfl rfl rfl (E.Runs.not rfl rfl) ?_
        refine E.GL.done ?_
        refine E.QG.code ?_
        refine E.CG.cond_t rfl ?_
        refine E.CG.seq ?_
        refine E.CG.list ?_
        refine E.GL.st rfl rfl rfl (E.ST.call rfl ent13 E.evn ((works_calls _).mono ?_))
        rintro e w76 ⟨rfl, l76⟩
        refine ⟨_, rfl, ?_⟩
        replace b2 := blk_below b2 l76
        replace b3 := blk_below b3 l76
        replace L := below_step L l76
        replace lx := below_step lx l76
        refine E.GL.run rfl rfl rfl (E.Runs.assign rfl rfl) ?_
        refine E.GL.done ?_
        refine E.QG.code ?_
        refine E.CG.ret ?_
        refine E.QG.pass_ret ?_
        first | exact E.QG.result rfl rfl ⟨rfl, L⟩ | exact absurd hfound Bool.false_ne_true | fail
  · refine E.GL.st rfl rfl rfl (E.ST.call rfl ent18 (E.evc rfl E.evn) ((ready_calls M A c _ false (iff_of_false Bool.false_ne_true h16) (Kd.C_below hr L)).mono ?_))
    rintro e w16 ⟨rfl, l16⟩
    refine ⟨_, rfl, ?_⟩
    replace b2 := blk_below b2 l16
    replace b3 := blk_below b3 l16
    replace L := below_step L l16
    refine E.GL.run rfl rfl rfl (E.Runs.not rfl rfl) ?_
    refine E.GL.done ?_
    refine E.QG.code ?_
    refine E.CG.cond_t rfl ?_
    refine E.CG.seq ?_
    refine E.CG.list ?_
    refine E.GL.st rfl rfl rfl (E.ST.call rfl ent13 E.evn ((works_calls _).mono ?_))
    rintro e w18 ⟨rfl, l18⟩
    refine ⟨_, rfl, ?_⟩
    replace b2 := blk_below b2 l18
    replace b3 := blk_below b3 l18
    replace L := below_step L l18
    refine E.GL.run rfl rfl rfl (E.Runs.assign rfl rfl) ?_
    refine E.GL.done ?_
    refine E.QG.code ?_
    refine E.CG.ret ?_
    refine E.QG.pass_ret ?_
    first | exact E.QG.result rfl rfl ⟨rfl, L⟩ | exact absurd hfound Bool.false_ne_true | fail

end Go.Proofs.Ytbajpjnloikpdaa.T
