/- A lamp that is asked about an hour: the walks of ask, Many, At, Keeps. -/
import Derived.Test.YtbajpjnloikpdaaP3
import Derived.Test.YtbajpjnloikpdaaP4
namespace Go.Proofs.Ytbajpjnloikpdaa.T
open Go.RowKit Go.Proofs.YtbajpjnloikpdaaW.PrintWords Go.Proofs.YtbajpjnloikpdaaW.PrintMore
open Go.Proofs.Ytbajpjnloikpdaa.P
set_option linter.unusedVariables false
set_option linter.unusedSimpArgs false

/-- The error of a lamp that is asked about an hour. -/
def askE (M : Lm) (h : Int) : Int := if ¬ LampOk M then 90 else if ¬ inR h 0 40 then 1 else if (truths M).length = 0 then 3 else 0
def askT (M : Lm) (h : Int) : List Ln := if askE M h = 0 then truths M else []
theorem askE_90 {M : Lm} {h : Int} (k : ¬ LampOk M) : askE M h = 90 := if_pos k
theorem askE_1 {M : Lm} {h : Int} (k : LampOk M) (k2 : ¬ inR h 0 40) : askE M h = 1 := by unfold askE; rw [if_neg (fun n => n k), if_pos k2]
theorem askE_3 {M : Lm} {h : Int} (k : LampOk M) (k2 : inR h 0 40) (k3 : (truths M).length = 0) : askE M h = 3 := by unfold askE; rw [if_neg (fun n => n k), if_neg (fun n => n k2), if_pos k3]
theorem askE_0 {M : Lm} {h : Int} (k : LampOk M) (k2 : inR h 0 40) (k3 : ¬ (truths M).length = 0) : askE M h = 0 := by unfold askE; rw [if_neg (fun n => n k), if_neg (fun n => n k2), if_neg k3]
theorem askE_ok {M : Lm} {h : Int} (k : askE M h = 0) : LampOk M ∧ inR h 0 40 ∧ 0 < (truths M).length := by
  unfold askE at k
  split at k
  · cases k
  · split at k
    · cases k
    · split at k
      · cases k
      · refine ⟨?_, ?_, by omega⟩ <;> apply Classical.byContradiction <;> assumption
theorem askT_0 {M : Lm} {h : Int} (k : askE M h = 0) : askT M h = truths M := if_pos k
theorem askT_no {M : Lm} {h : Int} (k : ¬ askE M h = 0) : askT M h = [] := if_neg k
theorem info72one : True := trivial
/-- What is told of a lamp without an error. -/
def manyV (M : Lm) : Int := if LampOk M then (truths M).length else 0
def atV (M : Lm) (h : Int) : Int × Int := if askE M h = 0 then spanT ((truths M).headD ⟨0, 0⟩) (truths M) h else (0, 0)
def keepsV (M : Lm) (h : Int) : Int := if askE M h = 0 then keepsT M.nl M.nh (truths M) h else 0
theorem head_at {l : List Ln} (h : 0 < l.length) : l[0]? = some (l.headD ⟨0, 0⟩) := by
  cases l with
  | nil => simp at h
  | cons a r => rfl
set_option maxRecDepth 100000 in
theorem build23z (W : World) : (Instr.build 23 #[]).run Try.prog W = .ok (.agg #[.int .i64 0, .int .i64 0]) W := by
  have hu3 := Try.underlying3
  have hu23 := Try.underlying23
  go_simp
set_option maxRecDepth 100000 in
set_option maxHeartbeats 8000000 in

theorem ask_calls (M : Lm) (A : Option Addr) (c : Nat) (h : Int) (w : World) (hr : Kd.C k64 w A M.gs.length M.gs) (hn : M.gs.length ≤ 1000000) :
    Calls Try.prog 49 #[lv M A c, .int .i64 h] w fun e w' => ∃ v, e = .returned (.tuple #[v, .int .i64 (askE M h)]) ∧ Kd.R kL 80 w' w.heap.size (fun _ => True) v (askT M h) ∧ Below w.heap.size w w' := by
  have hu3 := Try.underlying3
  have hu26 := Try.underlying26
  have hu72 := Try.underlying72
  refine E.enter (N := 22) Try.func49 rfl Try.ntmps49 (args := [lv M A c, .int .i64 h]) (by simp) ?_
  have L := Below.refl w.heap.size w
  refine E.CG.seq ?_
  refine E.CG.list ?_
  refine E.GL.st rfl rfl rfl (E.ST.box rfl rfl fun g2 w2 e2 b2 l2 => ?_)
  have h2_L : w.heap.size ≤ g2 := by rw [e2]; exact L.size
  replace L := below_step L l2
  refine E.GL.run rfl rfl rfl (E.Runs.assign rfl rfl) ?_
  refine E.GL.run rfl rfl rfl (E.Runs.assign rfl rfl) ?_
  refine E.GL.done ?_
  refine E.QG.code ?_
  refine E.CG.seq ?_
  refine E.CG.seq ?_
  refine E.CG.list ?_
  refine E.GL.run rfl rfl rfl (E.Runs.loads (cs := [.int .i64 M.fl, .int .i64 M.fh, .int .i64 M.al, .int .i64 M.ah, .int .i64 M.nl, .int .i64 M.nh, .int .i64 M.ra, .slice A M.gs.length c, .int .i64 M.wr]) rfl rfl hu26 rfl info26s (blk_cells b2)) ?_
  refine E.GL.st rfl rfl rfl (E.ST.call rfl ent39 (E.evc rfl E.evn) ((check_o M A c _ (Kd.C_below hr L) hn).mono ?_))
  rintro e w9 ⟨rfl, l9⟩
  refine ⟨_, rfl, ?_⟩
  replace b2 := blk_below b2 l9
  replace L := below_step L l9
  refine E.GL.run rfl rfl rfl (E.Runs.assign rfl rfl) ?_
  refine E.GL.done ?_
  refine E.QG.code ?_
  refine E.CG.seq ?_
  refine E.CG.list ?_
  refine E.GL.run rfl rfl rfl (E.Runs.move rfl rfl) ?_
  refine E.GL.cmpn rfl rfl rfl (fun _ h => (E.Runs.neq rfl rfl rfl h)) (fun h11 => ?_) (fun h11 => ?_)
  · have hV := fun k => h11 ((checkE_ok M).mpr k)
    refine E.GL.done ?_
    refine E.QG.code ?_
    refine E.CG.cond_t rfl ?_
    refine E.CG.seq ?_
    refine E.CG.list ?_
    refine E.GL.run rfl rfl rfl (E.Runs.move rfl rfl) ?_
    refine E.GL.run rfl rfl rfl (E.Runs.assign rfl rfl) ?_
    refine E.GL.run rfl rfl rfl (E.Runs.assign rfl rfl) ?_
    refine E.GL.done ?_
    refine E.QG.code ?_
    refine E.CG.ret ?_
    refine E.QG.pass_ret ?_
    exact E.QG.result2 rfl rfl rfl ⟨_, by rw [askE_90 hV, checkE_no hV], by rw [askT_no (by rw [askE_90 hV]; decide)]; exact Kd.R_nil _ _ _ _ _, L⟩
  · have hV := (checkE_ok M).mp (by omega)
    refine E.GL.done ?_
    refine E.QG.code ?_
    refine E.CG.cond_f rfl ?_
    refine E.CG.skip ?_
    refine E.QG.code ?_
    refine E.CG.seq ?_
    refine E.CG.seq ?_
    refine E.CG.list ?_
    refine E.GL.run rfl rfl rfl (E.Runs.move rfl rfl) ?_
    by_cases h14 : inR h 0 40
    · refine E.GL.st rfl rfl rfl (E.ST.call rfl ent43 (E.evc rfl (E.evc rfl (E.evc rfl E.evn))) ((within_o h 0 40 true (iff_of_true rfl h14) _).mono ?_))
      rintro e w14 ⟨rfl, l14⟩
      refine ⟨_, rfl, ?_⟩
      replace b2 := blk_below b2 l14
      replace L := below_step L l14
      refine E.GL.run rfl rfl rfl (E.Runs.not rfl rfl) ?_
      refine E.GL.done ?_
      refine E.QG.code ?_
      refine E.CG.cond_f rfl ?_
      refine E.CG.skip ?_
      refine E.QG.code ?_
      refine E.CG.seq ?_
      refine E.CG.list ?_
      refine E.GL.run rfl rfl rfl (E.Runs.loads (cs := [.int .i64 M.fl, .int .i64 M.fh, .int .i64 M.al, .int .i64 M.ah, .int .i64 M.nl, .int .i64 M.nh, .int .i64 M.ra, .slice A M.gs.length c, .int .i64 M.wr]) rfl rfl hu26 rfl info26s (blk_cells b2)) ?_
      have hs17 := L.size
      refine E.GL.st rfl rfl rfl (E.ST.call rfl ent46 (E.evc rfl E.evn) ((open_calls M A c _ hV (Kd.C_below hr L)).mono ?_))
      rintro e w17 ⟨v17, rfl, R17, l17⟩
      refine ⟨_, rfl, ?_⟩
      replace b2 := blk_below b2 l17
      replace L := below_step L l17
      replace R17 := Kd.R_lower R17 hs17
      obtain ⟨A17, c17, hv17⟩ := Kd.R_slice R17
      subst hv17
      refine E.GL.run rfl rfl rfl (E.Runs.assign rfl rfl) ?_
      refine E.GL.done ?_
      refine E.QG.code ?_
      refine E.CG.seq ?_
      refine E.CG.seq ?_
      refine E.CG.list ?_
      refine E.GL.run rfl rfl rfl (E.Runs.move rfl rfl) ?_
      refine E.GL.run rfl rfl rfl (E.Runs.len rfl rfl hu72) ?_
      refine E.GL.cmp rfl rfl rfl (fun _ h => (E.Runs.eql rfl rfl rfl h)) (fun h20 => ?_) (fun h20 => ?_)
      · refine E.GL.done ?_
        refine E.QG.code ?_
        refine E.CG.cond_t rfl ?_
        refine E.CG.seq ?_
        refine E.CG.list ?_
        refine E.GL.run rfl rfl rfl (E.Runs.assign rfl rfl) ?_
        refine E.GL.run rfl rfl rfl (E.Runs.assign rfl rfl) ?_
        refine E.GL.done ?_
        refine E.QG.code ?_
        refine E.CG.ret ?_
        refine E.QG.pass_ret ?_
        exact E.QG.result2 rfl rfl rfl ⟨_, by rw [askE_3 hV h14 (by omega)], by rw [askT_no (by rw [askE_3 hV h14 (by omega)]; decide)]; exact Kd.R_nil _ _ _ _ _, L⟩
      · refine E.GL.done ?_
        refine E.QG.code ?_
        refine E.CG.cond_f rfl ?_
        refine E.CG.skip ?_
        refine E.QG.code ?_
        refine E.CG.seq ?_
        refine E.CG.list ?_
        refine E.GL.run rfl rfl rfl (E.Runs.move rfl rfl) ?_
        refine E.GL.run rfl rfl rfl (E.Runs.assign rfl rfl) ?_
        refine E.GL.run rfl rfl rfl (E.Runs.assign rfl rfl) ?_
        refine E.GL.done ?_
        refine E.QG.code ?_
        refine E.CG.ret ?_
        exact E.QG.result2 rfl rfl rfl ⟨_, by rw [askE_0 hV h14 (by omega)], by rw [askT_0 (askE_0 hV h14 (by omega))]; exact R17, L⟩
    · refine E.GL.st rfl rfl rfl (E.ST.call rfl ent43 (E.evc rfl (E.evc rfl (E.evc rfl E.evn))) ((within_o h 0 40 false (iff_of_false Bool.false_ne_true h14) _).mono ?_))
      rintro e w14 ⟨rfl, l14⟩
      refine ⟨_, rfl, ?_⟩
      replace b2 := blk_below b2 l14
      replace L := below_step L l14
      refine E.GL.run rfl rfl rfl (E.Runs.not rfl rfl) ?_
      refine E.GL.done ?_
      refine E.QG.code ?_
      refine E.CG.cond_t rfl ?_
      refine E.CG.seq ?_
      refine E.CG.list ?_
      refine E.GL.run rfl rfl rfl (E.Runs.assign rfl rfl) ?_
      refine E.GL.run rfl rfl rfl (E.Runs.assign rfl rfl) ?_
      refine E.GL.done ?_
      refine E.QG.code ?_
      refine E.CG.ret ?_
      refine E.QG.pass_ret ?_
      exact E.QG.result2 rfl rfl rfl ⟨_, by rw [askE_1 hV h14], by rw [askT_no (by rw [askE_1 hV h14]; decide)]; exact Kd.R_nil _ _ _ _ _, L⟩

set_option maxRecDepth 100000 in
set_option maxHeartbeats 8000000 in

theorem many_calls (M : Lm) (A : Option Addr) (c : Nat) (w : World) (hr : Kd.C k64 w A M.gs.length M.gs) (hn : M.gs.length ≤ 1000000) :
    Calls Try.prog 33 #[lv M A c] w fun e w' => e = .returned (.tuple #[.int .i64 (manyV M), .int .i64 (checkE M)]) ∧ Below w.heap.size w w' := by
  have hu3 := Try.underlying3
  have hu26 := Try.underlying26
  have hu72 := Try.underlying72
  refine E.enter (N := 13) Try.func33 rfl Try.ntmps33 (args := [lv M A c]) (by simp) ?_
  have L := Below.refl w.heap.size w
  refine E.CG.seq ?_
  refine E.CG.list ?_
  refine E.GL.st rfl rfl rfl (E.ST.box rfl rfl fun g1 w1 e1 b1 l1 => ?_)
  have h1_L : w.heap.size ≤ g1 := by rw [e1]; exact L.size
  replace L := below_step L l1
  refine E.GL.run rfl rfl rfl (E.Runs.assign rfl rfl) ?_
  refine E.GL.run rfl rfl rfl (E.Runs.assign rfl rfl) ?_
  refine E.GL.done ?_
  refine E.QG.code ?_
  refine E.CG.seq ?_
  refine E.CG.seq ?_
  refine E.CG.list ?_
  refine E.GL.run rfl rfl rfl (E.Runs.loads (cs := [.int .i64 M.fl, .int .i64 M.fh, .int .i64 M.al, .int .i64 M.ah, .int .i64 M.nl, .int .i64 M.nh, .int .i64 M.ra, .slice A M.gs.length c, .int .i64 M.wr]) rfl rfl hu26 rfl info26s (blk_cells b1)) ?_
  refine E.GL.st rfl rfl rfl (E.ST.call rfl ent39 (E.evc rfl E.evn) ((check_o M A c _ (Kd.C_below hr L) hn).mono ?_))
  rintro e w6 ⟨rfl, l6⟩
  refine ⟨_, rfl, ?_⟩
  replace b1 := blk_below b1 l6
  replace L := below_step L l6
  refine E.GL.run rfl rfl rfl (E.Runs.assign rfl rfl) ?_
  refine E.GL.done ?_
  refine E.QG.code ?_
  refine E.CG.seq ?_
  refine E.CG.list ?_
  refine E.GL.run rfl rfl rfl (E.Runs.move rfl rfl) ?_
  refine E.GL.cmpn rfl rfl rfl (fun _ h => (E.Runs.neq rfl rfl rfl h)) (fun h8 => ?_) (fun h8 => ?_)
  · have hV := fun k => h8 ((checkE_ok M).mpr k)
    refine E.GL.done ?_
    refine E.QG.code ?_
    refine E.CG.cond_t rfl ?_
    refine E.CG.seq ?_
    refine E.CG.list ?_
    refine E.GL.run rfl rfl rfl (E.Runs.move rfl rfl) ?_
    refine E.GL.run rfl rfl rfl (E.Runs.assign rfl rfl) ?_
    refine E.GL.run rfl rfl rfl (E.Runs.assign rfl rfl) ?_
    refine E.GL.done ?_
    refine E.QG.code ?_
    refine E.CG.ret ?_
    refine E.QG.pass_ret ?_
    exact E.QG.result2 rfl rfl rfl ⟨by unfold manyV; rw [if_neg hV], L⟩
  · have hV := (checkE_ok M).mp (by omega)
    refine E.GL.done ?_
    refine E.QG.code ?_
    refine E.CG.cond_f rfl ?_
    refine E.CG.skip ?_
    refine E.QG.code ?_
    refine E.CG.seq ?_
    refine E.CG.list ?_
    refine E.GL.run rfl rfl rfl (E.Runs.loads (cs := [.int .i64 M.fl, .int .i64 M.fh, .int .i64 M.al, .int .i64 M.ah, .int .i64 M.nl, .int .i64 M.nh, .int .i64 M.ra, .slice A M.gs.length c, .int .i64 M.wr]) rfl rfl hu26 rfl info26s (blk_cells b1)) ?_
    have hs11 := L.size
    refine E.GL.st rfl rfl rfl (E.ST.call rfl ent46 (E.evc rfl E.evn) ((open_calls M A c _ hV (Kd.C_below hr L)).mono ?_))
    rintro e w11 ⟨v11, rfl, R11, l11⟩
    refine ⟨_, rfl, ?_⟩
    replace b1 := blk_below b1 l11
    replace L := below_step L l11
    replace R11 := Kd.R_lower R11 hs11
    obtain ⟨A11, c11, hv11⟩ := Kd.R_slice R11
    subst hv11
    refine E.GL.run rfl rfl rfl (E.Runs.len rfl rfl hu72) ?_
    refine E.GL.run rfl rfl rfl (E.Runs.assign rfl rfl) ?_
    refine E.GL.run rfl rfl rfl (E.Runs.assign rfl rfl) ?_
    refine E.GL.done ?_
    refine E.QG.code ?_
    refine E.CG.ret ?_
    exact E.QG.result2 rfl rfl rfl ⟨by unfold manyV; rw [if_pos hV, checkE_yes hV], L⟩

set_option maxRecDepth 100000 in
set_option maxHeartbeats 8000000 in

theorem at_calls (M : Lm) (A : Option Addr) (c : Nat) (h : Int) (w : World) (hr : Kd.C k64 w A M.gs.length M.gs) (hn : M.gs.length ≤ 1000000) :
    Calls Try.prog 20 #[lv M A c, .int .i64 h] w fun e w' => e = .returned (.tuple #[.agg #[.int .i64 (atV M h).1, .int .i64 (atV M h).2], .int .i64 (askE M h)]) ∧ Below w.heap.size w w' := by
  have hu3 := Try.underlying3
  have hu23 := Try.underlying23
  have hu26 := Try.underlying26
  have hu72 := Try.underlying72
  obtain ⟨z3, o3⟩ := info_some info3s (by decide)
  obtain ⟨z23, o23⟩ := info_some info23s (by decide)
  refine E.enter (N := 21) Try.func20 rfl Try.ntmps20 (args := [lv M A c, .int .i64 h]) (by simp) ?_
  have L := Below.refl w.heap.size w
  refine E.CG.seq ?_
  refine E.CG.list ?_
  refine E.GL.st rfl rfl rfl (E.ST.box rfl rfl fun g2 w2 e2 b2 l2 => ?_)
  have h2_L : w.heap.size ≤ g2 := by rw [e2]; exact L.size
  replace L := below_step L l2
  refine E.GL.st rfl rfl rfl (E.ST.alloc rfl info23z fun g4 w4 e4 b4 l4 => ?_)
  have h4_L : w.heap.size ≤ g4 := by rw [e4]; exact L.size
  have n4_b2 : g2 ≠ g4 := by have := blk_lt b2; omega
  replace b2 := blk_below b2 l4
  replace L := below_step L l4
  refine E.GL.run rfl rfl rfl (E.Runs.assign rfl rfl) ?_
  refine E.GL.done ?_
  refine E.QG.code ?_
  refine E.CG.seq ?_
  refine E.CG.list ?_
  refine E.GL.run rfl rfl rfl (E.Runs.loads (cs := [.int .i64 M.fl, .int .i64 M.fh, .int .i64 M.al, .int .i64 M.ah, .int .i64 M.nl, .int .i64 M.nh, .int .i64 M.ra, .slice A M.gs.length c, .int .i64 M.wr]) rfl rfl hu26 rfl info26s (blk_cells b2)) ?_
  refine E.GL.run rfl rfl rfl (E.Runs.move rfl rfl) ?_
  refine E.GL.st rfl rfl rfl (E.ST.call rfl ent49 (E.evc rfl (E.evc rfl E.evn)) ((ask_calls M A c h _ (Kd.C_below hr L) hn).mono ?_))
  rintro e w11 ⟨v11, rfl, R11, l11⟩
  refine ⟨_, rfl, ?_⟩
  replace b2 := blk_below b2 l11
  replace b4 := blk_below b4 l11
  replace L := below_step L l11
  refine E.GL.run rfl rfl rfl (E.Runs.move rfl rfl) ?_
  refine E.GL.run rfl rfl rfl (E.Runs.extract rfl rfl rfl) ?_
  refine E.GL.run rfl rfl rfl (E.Runs.extract rfl rfl rfl) ?_
  refine E.GL.run rfl rfl rfl (E.Runs.assign rfl rfl) ?_
  refine E.GL.run rfl rfl rfl (E.Runs.assign rfl rfl) ?_
  refine E.GL.done ?_
  refine E.QG.code ?_
  refine E.CG.seq ?_
  refine E.CG.seq ?_
  refine E.CG.list ?_
  refine E.GL.run rfl rfl rfl (E.Runs.move rfl rfl) ?_
  refine E.GL.cmpn rfl rfl rfl (fun _ h => (E.Runs.neq rfl rfl rfl h)) (fun h15 => ?_) (fun h15 => ?_)
  · refine E.GL.done ?_
    refine E.QG.code ?_
    refine E.CG.cond_t rfl ?_
    refine E.CG.seq ?_
    refine E.CG.list ?_
    refine E.GL.run rfl rfl rfl (E.Runs.build rfl E.epn (build23z)) ?_
    refine E.GL.run rfl rfl rfl (E.Runs.move rfl rfl) ?_
    refine E.GL.store_whole rfl rfl rfl rfl rfl b4 rfl info23s (two_one _ _) fun wS3_2 c4 lS3_2 => ?_
    replace b2 := blk_grown b2 lS3_2 (E.nes (by first | assumption | exact Ne.symm (by assumption)))
    replace L := E.below_own L h4_L lS3_2
    replace b4 := c4
    clear c4
    refine E.GL.run rfl rfl rfl (E.Runs.assign rfl rfl) ?_
    refine E.GL.done ?_
    refine E.QG.code ?_
    refine E.CG.ret ?_
    refine E.QG.pass_ret ?_
    exact E.QG.result_ct rfl rfl b4 hu23 rfl info23c rfl ⟨by unfold atV; rw [if_neg h15]; rfl, L⟩
  · obtain ⟨hV, hh, hpos⟩ := askE_ok (M := M) (h := h) (by omega)
    rw [askT_0 (by omega)] at R11
    obtain ⟨A11, c11, hv11⟩ := Kd.R_slice R11
    subst hv11
    obtain ⟨_, _, C11⟩ := Kd.R_reads' R11
    obtain ⟨hh0, hh1⟩ := hh
    have hf := truths_few hV.1
    refine E.GL.done ?_
    refine E.QG.code ?_
    refine E.CG.cond_f rfl ?_
    refine E.CG.skip ?_
    refine E.QG.code ?_
    refine E.CG.seq ?_
    refine E.CG.list ?_
    refine E.GL.run rfl rfl rfl (E.Runs.move rfl rfl) ?_
    refine E.GL.run rfl rfl rfl (E.Runs.move rfl rfl) ?_
    refine E.GL.st rfl rfl rfl (E.ST.call rfl ent50 (E.evc rfl (E.evc rfl E.evn)) ((at_row h _ _ A11 c11 _ C11 (head_at hpos) (fun x hx => truths_ok hV.1 hx) hh0 (by omega) (by omega)).mono ?_))
    rintro e w20 ⟨rfl, l20⟩
    refine ⟨_, rfl, ?_⟩
    replace b2 := blk_below b2 l20
    replace b4 := blk_below b4 l20
    replace L := below_step L l20
    refine E.GL.store_whole rfl rfl rfl rfl rfl b4 rfl info23s (two_one _ _) fun wS4_3 c4 lS4_3 => ?_
    replace b2 := blk_grown b2 lS4_3 (E.nes (by first | assumption | exact Ne.symm (by assumption)))
    replace L := E.below_own L h4_L lS4_3
    replace b4 := c4
    clear c4
    refine E.GL.run rfl rfl rfl (E.Runs.assign rfl rfl) ?_
    refine E.GL.done ?_
    refine E.QG.code ?_
    refine E.CG.ret ?_
    exact E.QG.result_ct rfl rfl b4 hu23 rfl info23c rfl ⟨by unfold atV; rw [if_pos (by omega), show askE M h = 0 by omega], L⟩

set_option maxRecDepth 100000 in
set_option maxHeartbeats 8000000 in

theorem keeps_calls (M : Lm) (A : Option Addr) (c : Nat) (h : Int) (w : World) (hr : Kd.C k64 w A M.gs.length M.gs) (hn : M.gs.length ≤ 1000000) :
    Calls Try.prog 27 #[lv M A c, .int .i64 h] w fun e w' => e = .returned (.tuple #[.int .i64 (keepsV M h), .int .i64 (askE M h)]) ∧ Below w.heap.size w w' := by
  have hu3 := Try.underlying3
  have hu23 := Try.underlying23
  have hu26 := Try.underlying26
  have hu72 := Try.underlying72
  obtain ⟨z3, o3⟩ := info_some info3s (by decide)
  obtain ⟨z23, o23⟩ := info_some info23s (by decide)
  refine E.enter (N := 22) Try.func27 rfl Try.ntmps27 (args := [lv M A c, .int .i64 h]) (by simp) ?_
  have L := Below.refl w.heap.size w
  refine E.CG.seq ?_
  refine E.CG.list ?_
  refine E.GL.st rfl rfl rfl (E.ST.box rfl rfl fun g2 w2 e2 b2 l2 => ?_)
  have h2_L : w.heap.size ≤ g2 := by rw [e2]; exact L.size
  replace L := below_step L l2
  refine E.GL.run rfl rfl rfl (E.Runs.assign rfl rfl) ?_
  refine E.GL.run rfl rfl rfl (E.Runs.assign rfl rfl) ?_
  refine E.GL.done ?_
  refine E.QG.code ?_
  refine E.CG.seq ?_
  refine E.CG.list ?_
  refine E.GL.run rfl rfl rfl (E.Runs.loads (cs := [.int .i64 M.fl, .int .i64 M.fh, .int .i64 M.al, .int .i64 M.ah, .int .i64 M.nl, .int .i64 M.nh, .int .i64 M.ra, .slice A M.gs.length c, .int .i64 M.wr]) rfl rfl hu26 rfl info26s (blk_cells b2)) ?_
  refine E.GL.run rfl rfl rfl (E.Runs.move rfl rfl) ?_
  refine E.GL.st rfl rfl rfl (E.ST.call rfl ent49 (E.evc rfl (E.evc rfl E.evn)) ((ask_calls M A c h _ (Kd.C_below hr L) hn).mono ?_))
  rintro e w11 ⟨v11, rfl, R11, l11⟩
  refine ⟨_, rfl, ?_⟩
  replace b2 := blk_below b2 l11
  replace L := below_step L l11
  refine E.GL.run rfl rfl rfl (E.Runs.move rfl rfl) ?_
  refine E.GL.run rfl rfl rfl (E.Runs.extract rfl rfl rfl) ?_
  refine E.GL.run rfl rfl rfl (E.Runs.extract rfl rfl rfl) ?_
  refine E.GL.run rfl rfl rfl (E.Runs.assign rfl rfl) ?_
  refine E.GL.run rfl rfl rfl (E.Runs.assign rfl rfl) ?_
  refine E.GL.done ?_
  refine E.QG.code ?_
  refine E.CG.seq ?_
  refine E.CG.seq ?_
  refine E.CG.list ?_
  refine E.GL.run rfl rfl rfl (E.Runs.move rfl rfl) ?_
  refine E.GL.cmpn rfl rfl rfl (fun _ h => (E.Runs.neq rfl rfl rfl h)) (fun h15 => ?_) (fun h15 => ?_)
  · refine E.GL.done ?_
    refine E.QG.code ?_
    refine E.CG.cond_t rfl ?_
    refine E.CG.seq ?_
    refine E.CG.list ?_
    refine E.GL.run rfl rfl rfl (E.Runs.move rfl rfl) ?_
    refine E.GL.run rfl rfl rfl (E.Runs.assign rfl rfl) ?_
    refine E.GL.run rfl rfl rfl (E.Runs.assign rfl rfl) ?_
    refine E.GL.done ?_
    refine E.QG.code ?_
    refine E.CG.ret ?_
    refine E.QG.pass_ret ?_
    exact E.QG.result2 rfl rfl rfl ⟨by unfold keepsV; rw [if_neg h15]; rfl, L⟩
  · obtain ⟨hV, hh, hpos⟩ := askE_ok (M := M) (h := h) (by omega)
    rw [askT_0 (by omega)] at R11
    obtain ⟨A11, c11, hv11⟩ := Kd.R_slice R11
    subst hv11
    obtain ⟨_, _, C11⟩ := Kd.R_reads' R11
    obtain ⟨hh0, hh1⟩ := hh
    have hf := truths_few hV.1
    refine E.GL.done ?_
    refine E.QG.code ?_
    refine E.CG.cond_f rfl ?_
    refine E.CG.skip ?_
    refine E.QG.code ?_
    refine E.CG.seq ?_
    refine E.CG.list ?_
    refine E.GL.run rfl rfl rfl (E.Runs.move rfl rfl) ?_
    refine E.GL.run rfl rfl rfl (E.Runs.fieldAddr rfl rfl hu26 rfl (by assumption) rfl) ?_
    refine E.GL.run rfl rfl rfl (E.Runs.loads (cs := [.int .i64 M.nl, .int .i64 M.nh]) rfl rfl hu23 rfl info23s (cells2 b2 4 rfl rfl)) ?_
    refine E.GL.run rfl rfl rfl (E.Runs.move rfl rfl) ?_
    refine E.GL.st rfl rfl rfl (E.ST.call rfl ent53 (E.evc rfl (E.evc rfl (E.evc rfl E.evn))) ((keeps_row M.nl M.nh h _ A11 c11 _ C11 (fun x hx => truths_ok hV.1 hx) hh0 (by omega) (by omega)).mono ?_))
    rintro e w21 ⟨rfl, l21⟩
    refine ⟨_, rfl, ?_⟩
    replace b2 := blk_below b2 l21
    replace L := below_step L l21
    refine E.GL.run rfl rfl rfl (E.Runs.assign rfl rfl) ?_
    refine E.GL.run rfl rfl rfl (E.Runs.assign rfl rfl) ?_
    refine E.GL.done ?_
    refine E.QG.code ?_
    refine E.CG.ret ?_
    exact E.QG.result2 rfl rfl rfl ⟨by unfold keepsV; rw [if_pos (by omega), show askE M h = 0 by omega], L⟩

end Go.Proofs.Ytbajpjnloikpdaa.T
