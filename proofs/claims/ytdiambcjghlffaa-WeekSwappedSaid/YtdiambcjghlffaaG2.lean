/- Texts of this claim, put together: A2, E26, A3, A4, A5, N3, A6, A7, A8, E27. -/
import Derived.Test.YtdiambcjghlffaaG1
import Derived.Scope
namespace Go.Proofs.Ytdiambcjghlffaa.T
open Go.RowKit Go.Proofs.YtdiambcjghlffaaW.PrintWords Go.Proofs.YtdiambcjghlffaaW.PrintMore
open Go.Proofs.Ytdiambcjghlffaa.P
set_option linter.unusedVariables false
set_option linter.unusedSimpArgs false

set_option maxRecDepth 100000 in
set_option maxHeartbeats 8000000 in

theorem isDeal_o (V : Wk) (m : Wa) (x : S45) (hsf : V.fs.length ≤ 1000000) (r : Bool) (hb : r = true ↔ DOk V x) (w : World) :
    Calls Try.prog 58 #[wv V m, .agg #[.int .i64 x.f0, .int .i64 x.f1, .int .i64 x.f2, .int .i64 x.f3, .int .i64 x.f4, .int .i64 x.f5, .int .i64 x.f6, .int .i64 x.f7]] w fun e w' => e = .returned (.bool r) ∧ Below w.heap.size w w' := by
  have hu3 := Try.underlying3
  have hu23 := Try.underlying23
  have hu26 := Try.underlying26
  have hu45 := Try.underlying45
  obtain ⟨z3, o3⟩ := info_some info3s (by decide)
  obtain ⟨z23, o23⟩ := info_some info23s (by decide)
  refine E.enter (N := 64) Try.func58 rfl Try.ntmps58 (args := [wv V m, .agg #[.int .i64 x.f0, .int .i64 x.f1, .int .i64 x.f2, .int .i64 x.f3, .int .i64 x.f4, .int .i64 x.f5, .int .i64 x.f6, .int .i64 x.f7]]) (by simp) ?_
  have L := Below.refl w.heap.size w
  refine E.CG.seq ?_
  refine E.CG.list ?_
  refine E.GL.st rfl rfl rfl (E.ST.box rfl rfl fun g2 w2 e2 b2 l2 => ?_)
  have h2_L : w.heap.size ≤ g2 := by rw [e2]; exact L.size
  replace L := below_step L l2
  refine E.GL.st rfl rfl rfl (E.ST.box rfl rfl fun g3 w3 e3 b3 l3 => ?_)
  have h3_L : w.heap.size ≤ g3 := by rw [e3]; exact L.size
  have n3_b2 : g2 ≠ g3 := by have := blk_lt b2; omega
  replace b2 := blk_below b2 l3
  replace L := below_step L l3
  refine E.GL.run rfl rfl rfl (E.Runs.assign rfl rfl) ?_
  refine E.GL.done ?_
  refine E.QG.code ?_
  refine E.CG.seq ?_
  refine E.CG.seq ?_
  refine E.CG.list ?_
  refine E.GL.run rfl rfl rfl (E.Runs.fieldAddr rfl rfl hu45 rfl (by assumption) rfl) ?_
  refine E.GL.run rfl rfl rfl (E.Runs.load rfl rfl hu3 (by first | assumption | exact E.blkc (by assumption) rfl | exact pw_cell_below L (by assumption))) ?_
  refine E.GL.run rfl rfl rfl (E.Runs.fieldAddr rfl rfl hu26 rfl (by assumption) rfl) ?_
  refine E.GL.run rfl rfl rfl (E.Runs.load1 rfl rfl hu23 rfl (by first | assumption | exact E.blkc (by assumption) rfl | exact pw_cell_below L (by assumption))) ?_
  refine E.GL.run rfl rfl rfl (E.Runs.len rfl rfl hu23) ?_
  refine E.GL.run rfl rfl rfl (E.Runs.sub rfl rfl rfl (IntWalk.i64_in _ (by omega))) ?_
  by_cases h11 : inR x.f1 0 (V.fs.length - 1)
  · refine E.GL.st rfl rfl rfl (E.ST.call rfl ent46 (E.evc rfl (E.evc rfl (E.evc rfl E.evn))) ((within_o x.f1 0 (V.fs.length - 1) true (iff_of_true rfl h11) _).mono ?_))
    rintro e w11 ⟨rfl, l11⟩
    refine ⟨_, rfl, ?_⟩
    replace b2 := blk_below b2 l11
    replace b3 := blk_below b3 l11
    replace L := below_step L l11
    refine E.GL.run rfl rfl rfl (E.Runs.not rfl rfl) ?_
    refine E.GL.run rfl rfl rfl (E.Runs.move rfl rfl) ?_
    refine E.GL.run rfl rfl rfl (E.Runs.fieldAddr rfl rfl hu45 rfl (by assumption) rfl) ?_
    refine E.GL.run rfl rfl rfl (E.Runs.load rfl rfl hu3 (by first | assumption | exact E.blkc (by assumption) rfl | exact pw_cell_below L (by assumption))) ?_
    refine E.GL.run rfl rfl rfl (E.Runs.fieldAddr rfl rfl hu45 rfl (by assumption) rfl) ?_
    refine E.GL.run rfl rfl rfl (E.Runs.load rfl rfl hu3 (by first | assumption | exact E.blkc (by assumption) rfl | exact pw_cell_below L (by assumption))) ?_
    by_cases h18 : inR x.f2 0 x.f3
    · refine E.GL.st rfl rfl rfl (E.ST.call rfl ent46 (E.evc rfl (E.evc rfl (E.evc rfl E.evn))) ((within_o x.f2 0 x.f3 true (iff_of_true rfl h18) _).mono ?_))
      rintro e w18 ⟨rfl, l18⟩
      refine ⟨_, rfl, ?_⟩
      replace b2 := blk_below b2 l18
      replace b3 := blk_below b3 l18
      replace L := below_step L l18
      refine E.GL.run rfl rfl rfl (E.Runs.not rfl rfl) ?_
      refine E.GL.run rfl rfl rfl (E.Runs.pick_f rfl rfl rfl) ?_
      refine E.GL.run rfl rfl rfl (E.Runs.move rfl rfl) ?_
      refine E.GL.run rfl rfl rfl (E.Runs.fieldAddr rfl rfl hu45 rfl (by assumption) rfl) ?_
      refine E.GL.run rfl rfl rfl (E.Runs.load rfl rfl hu3 (by first | assumption | exact E.blkc (by assumption) rfl | exact pw_cell_below L (by assumption))) ?_
      refine E.GL.run rfl rfl rfl (E.Runs.fieldAddr rfl rfl hu26 rfl (by assumption) rfl) ?_
      refine E.GL.run rfl rfl rfl (E.Runs.load rfl rfl hu3 (by first | assumption | exact E.blkc (by assumption) rfl | exact pw_cell_below L (by assumption))) ?_
      refine E.GL.cmp rfl rfl rfl (fun _ h => (E.Runs.geq rfl rfl rfl h)) (fun h26 => ?_) (fun h26 => ?_)
      · refine E.GL.run rfl rfl rfl (E.Runs.pick_f rfl rfl rfl) ?_
        refine E.GL.run rfl rfl rfl (E.Runs.move rfl rfl) ?_
        refine E.GL.skip rfl rfl rfl ?_
        refine E.GL.skip rfl rfl rfl ?_
        refine E.GL.skip rfl rfl rfl ?_
        refine E.GL.skip rfl rfl rfl ?_
        refine E.GL.skip rfl rfl rfl ?_
        refine E.GL.skip rfl rfl rfl ?_
        refine E.GL.run rfl rfl rfl (E.Runs.pick_t rfl rfl rfl) ?_
        refine E.GL.run rfl rfl rfl (E.Runs.move rfl rfl) ?_
        refine E.GL.skip rfl rfl rfl ?_
        refine E.GL.skip rfl rfl rfl ?_
        refine E.GL.skip rfl rfl rfl ?_
        refine E.GL.skip rfl rfl rfl ?_
        refine E.GL.skip rfl rfl rfl ?_
        refine E.GL.run rfl rfl rfl (E.Runs.pick_t rfl rfl rfl) ?_
        refine E.GL.run rfl rfl rfl (E.Runs.move rfl rfl) ?_
        refine E.GL.skip rfl rfl rfl ?_
        refine E.GL.skip rfl rfl rfl ?_
        refine E.GL.skip rfl rfl rfl ?_
        refine E.GL.skip rfl rfl rfl ?_
        refine E.GL.run rfl rfl rfl (E.Runs.pick_t rfl rfl rfl) ?_
        refine E.GL.done ?_
        refine E.QG.code ?_
        refine E.CG.cond_t rfl ?_
        refine E.CG.seq ?_
        refine E.CG.list ?_
        refine E.GL.run rfl rfl rfl (E.Runs.assign rfl rfl) ?_
        refine E.GL.done ?_
        refine E.QG.code ?_
        refine E.CG.ret ?_
        refine E.QG.pass_ret ?_
        have hq : ¬ DOk V x := by unfold DOk; unfold inR at *; omega
        exact E.QG.result rfl rfl ⟨by rw [bool_no hb hq] <;> rfl, L⟩
      · refine E.GL.run rfl rfl rfl (E.Runs.pick_f rfl rfl rfl) ?_
        refine E.GL.run rfl rfl rfl (E.Runs.move rfl rfl) ?_
        refine E.GL.run rfl rfl rfl (E.Runs.fieldAddr rfl rfl hu45 rfl (by assumption) rfl) ?_
        refine E.GL.run rfl rfl rfl (E.Runs.load rfl rfl hu3 (by first | assumption | exact E.blkc (by assumption) rfl | exact pw_cell_below L (by assumption))) ?_
        refine E.GL.run rfl rfl rfl (E.Runs.fieldAddr rfl rfl hu45 rfl (by assumption) rfl) ?_
        refine E.GL.run rfl rfl rfl (E.Runs.load rfl rfl hu3 (by first | assumption | exact E.blkc (by assumption) rfl | exact pw_cell_below L (by assumption))) ?_
        by_cases h33 : inR x.f4 0 x.f5
        · refine E.GL.st rfl rfl rfl (E.ST.call rfl ent46 (E.evc rfl (E.evc rfl (E.evc rfl E.evn))) ((within_o x.f4 0 x.f5 true (iff_of_true rfl h33) _).mono ?_))
          rintro e w33 ⟨rfl, l33⟩
          refine ⟨_, rfl, ?_⟩
          replace b2 := blk_below b2 l33
          replace b3 := blk_below b3 l33
          replace L := below_step L l33
          refine E.GL.run rfl rfl rfl (E.Runs.not rfl rfl) ?_
          refine E.GL.run rfl rfl rfl (E.Runs.pick_f rfl rfl rfl) ?_
          refine E.GL.run rfl rfl rfl (E.Runs.move rfl rfl) ?_
          refine E.GL.run rfl rfl rfl (E.Runs.fieldAddr rfl rfl hu45 rfl (by assumption) rfl) ?_
          refine E.GL.run rfl rfl rfl (E.Runs.load rfl rfl hu3 (by first | assumption | exact E.blkc (by assumption) rfl | exact pw_cell_below L (by assumption))) ?_
          refine E.GL.run rfl rfl rfl (E.Runs.fieldAddr rfl rfl hu26 rfl (by assumption) rfl) ?_
          refine E.GL.run rfl rfl rfl (E.Runs.load rfl rfl hu3 (by first | assumption | exact E.blkc (by assumption) rfl | exact pw_cell_below L (by assumption))) ?_
          refine E.GL.cmp rfl rfl rfl (fun _ h => (E.Runs.geq rfl rfl rfl h)) (fun h41 => ?_) (fun h41 => ?_)
          · refine E.GL.run rfl rfl rfl (E.Runs.pick_f rfl rfl rfl) ?_
            refine E.GL.run rfl rfl rfl (E.Runs.move rfl rfl) ?_
            refine E.GL.skip rfl rfl rfl ?_
            refine E.GL.skip rfl rfl rfl ?_
            refine E.GL.skip rfl rfl rfl ?_
            refine E.GL.skip rfl rfl rfl ?_
            refine E.GL.run rfl rfl rfl (E.Runs.pick_t rfl rfl rfl) ?_
            refine E.GL.done ?_
            refine E.QG.code ?_
            refine E.CG.cond_t rfl ?_
            refine E.CG.seq ?_
            refine E.CG.list ?_
            refine E.GL.run rfl rfl rfl (E.Runs.assign rfl rfl) ?_
            refine E.GL.done ?_
            refine E.QG.code ?_
            refine E.CG.ret ?_
            refine E.QG.pass_ret ?_
            have hq : ¬ DOk V x := by unfold DOk; unfold inR at *; omega
            exact E.QG.result rfl rfl ⟨by rw [bool_no hb hq] <;> rfl, L⟩
          · refine E.GL.run rfl rfl rfl (E.Runs.pick_f rfl rfl rfl) ?_
            refine E.GL.run rfl rfl rfl (E.Runs.move rfl rfl) ?_
            refine E.GL.run rfl rfl rfl (E.Runs.fieldAddr rfl rfl hu45 rfl (by assumption) rfl) ?_
            refine E.GL.run rfl rfl rfl (E.Runs.load rfl rfl hu3 (by first | assumption | exact E.blkc (by assumption) rfl | exact pw_cell_below L (by assumption))) ?_
            by_cases h46 : inR x.f6 0 500
            · refine E.GL.st rfl rfl rfl (E.ST.call rfl ent46 (E.evc rfl (E.evc rfl (E.evc rfl E.evn))) ((within_o x.f6 0 500 true (iff_of_true rfl h46) _).mono ?_))
              rintro e w46 ⟨rfl, l46⟩
              refine ⟨_, rfl, ?_⟩
              replace b2 := blk_below b2 l46
              replace b3 := blk_below b3 l46
              replace L := below_step L l46
              refine E.GL.run rfl rfl rfl (E.Runs.not rfl rfl) ?_
              refine E.GL.run rfl rfl rfl (E.Runs.pick_f rfl rfl rfl) ?_
              refine E.GL.done ?_
              refine E.QG.code ?_
              refine E.CG.cond_f rfl ?_
              refine E.CG.skip ?_
              refine E.QG.code ?_
              refine E.CG.seq ?_
              refine E.CG.seq ?_
              refine E.CG.list ?_
              refine E.GL.run rfl rfl rfl (E.Runs.fieldAddr rfl rfl hu45 rfl (by assumption) rfl) ?_
              refine E.GL.run rfl rfl rfl (E.Runs.load rfl rfl hu3 (by first | assumption | exact E.blkc (by assumption) rfl | exact pw_cell_below L (by assumption))) ?_
              refine E.GL.done ?_
              refine E.QG.code ?_
              refine E.CG.block ?_
              refine E.CG.seq ?_
              refine E.CG.seq ?_
              refine E.CG.list ?_
              refine E.GL.cmp rfl rfl rfl (fun _ h => (E.Runs.eql rfl rfl rfl h)) (fun h52 => ?_) (fun h52 => ?_)
              · refine E.GL.run rfl rfl rfl (E.Runs.assign rfl rfl) ?_
                refine E.GL.done ?_
                refine E.QG.code ?_
                refine E.CG.cond_t rfl ?_
                refine E.CG.skip ?_
                refine E.QG.code ?_
                refine E.CG.cond_t rfl ?_
                refine E.CG.seq ?_
                refine E.CG.list ?_
                refine E.GL.run rfl rfl rfl (E.Runs.fieldAddr rfl rfl hu45 rfl (by assumption) rfl) ?_
                refine E.GL.run rfl rfl rfl (E.Runs.load rfl rfl hu3 (by first | assumption | exact E.blkc (by assumption) rfl | exact pw_cell_below L (by assumption))) ?_
                by_cases h56 : inR x.f7 0 8
                · refine E.GL.st rfl rfl rfl (E.ST.call rfl ent46 (E.evc rfl (E.evc rfl (E.evc rfl E.evn))) ((within_o x.f7 0 8 true (iff_of_true rfl h56) _).mono ?_))
                  rintro e w56 ⟨rfl, l56⟩
                  refine ⟨_, rfl, ?_⟩
                  replace b2 := blk_below b2 l56
                  replace b3 := blk_below b3 l56
                  replace L := below_step L l56
                  refine E.GL.run rfl rfl rfl (E.Runs.assign rfl rfl) ?_
                  refine E.GL.done ?_
                  refine E.QG.code ?_
                  refine E.CG.ret ?_
                  refine E.QG.block_ret ?_
                  refine E.QG.pass_ret ?_
                  have hq : DOk V x := by unfold DOk; unfold inR at *; omega
                  exact E.QG.result rfl rfl ⟨by rw [hb.mpr hq] <;> rfl, L⟩
                · refine E.GL.st rfl rfl rfl (E.ST.call rfl ent46 (E.evc rfl (E.evc rfl (E.evc rfl E.evn))) ((within_o x.f7 0 8 false (iff_of_false Bool.false_ne_true h56) _).mono ?_))
                  rintro e w56 ⟨rfl, l56⟩
                  refine ⟨_, rfl, ?_⟩
                  replace b2 := blk_below b2 l56
                  replace b3 := blk_below b3 l56
                  replace L := below_step L l56
                  refine E.GL.run rfl rfl rfl (E.Runs.assign rfl rfl) ?_
                  refine E.GL.done ?_
                  refine E.QG.code ?_
                  refine E.CG.ret ?_
                  refine E.QG.block_ret ?_
                  refine E.QG.pass_ret ?_
                  have hq : ¬ DOk V x := by unfold DOk; unfold inR at *; omega
                  exact E.QG.result rfl rfl ⟨by rw [bool_no hb hq] <;> rfl, L⟩
              · refine E.GL.run rfl rfl rfl (E.Runs.assign rfl rfl) ?_
                refine E.GL.done ?_
                refine E.QG.code ?_
                refine E.CG.cond_f rfl ?_
                refine E.CG.list ?_
                refine E.GL.cmp rfl rfl rfl (fun _ h => (E.Runs.eql rfl rfl rfl h)) (fun h53 => ?_) (fun h53 => ?_)
                · refine E.GL.run rfl rfl rfl (E.Runs.assign rfl rfl) ?_
                  refine E.GL.done ?_
                  refine E.QG.code ?_
                  refine E.CG.cond_t rfl ?_
                  refine E.CG.seq ?_
                  refine E.CG.list ?_
                  refine E.GL.run rfl rfl rfl (E.Runs.fieldAddr rfl rfl hu45 rfl (by assumption) rfl) ?_
                  refine E.GL.run rfl rfl rfl (E.Runs.load rfl rfl hu3 (by first | assumption | exact E.blkc (by assumption) rfl | exact pw_cell_below L (by assumption))) ?_
                  by_cases h56 : inR x.f7 0 8
                  · refine E.GL.st rfl rfl rfl (E.ST.call rfl ent46 (E.evc rfl (E.evc rfl (E.evc rfl E.evn))) ((within_o x.f7 0 8 true (iff_of_true rfl h56) _).mono ?_))
                    rintro e w56 ⟨rfl, l56⟩
                    refine ⟨_, rfl, ?_⟩
                    replace b2 := blk_below b2 l56
                    replace b3 := blk_below b3 l56
                    replace L := below_step L l56
                    refine E.GL.run rfl rfl rfl (E.Runs.assign rfl rfl) ?_
                    refine E.GL.done ?_
                    refine E.QG.code ?_
                    refine E.CG.ret ?_
                    refine E.QG.block_ret ?_
                    refine E.QG.pass_ret ?_
                    have hq : DOk V x := by unfold DOk; unfold inR at *; omega
                    exact E.QG.result rfl rfl ⟨by rw [hb.mpr hq] <;> rfl, L⟩
                  · refine E.GL.st rfl rfl rfl (E.ST.call rfl ent46 (E.evc rfl (E.evc rfl (E.evc rfl E.evn))) ((within_o x.f7 0 8 false (iff_of_false Bool.false_ne_true h56) _).mono ?_))
                    rintro e w56 ⟨rfl, l56⟩
                    refine ⟨_, rfl, ?_⟩
                    replace b2 := blk_below b2 l56
                    replace b3 := blk_below b3 l56
                    replace L := below_step L l56
                    refine E.GL.run rfl rfl rfl (E.Runs.assign rfl rfl) ?_
                    refine E.GL.done ?_
                    refine E.QG.code ?_
                    refine E.CG.ret ?_
                    refine E.QG.block_ret ?_
                    refine E.QG.pass_ret ?_
                    have hq : ¬ DOk V x := by unfold DOk; unfold inR at *; omega
                    exact E.QG.result rfl rfl ⟨by rw [bool_no hb hq] <;> rfl, L⟩
                · refine E.GL.run rfl rfl rfl (E.Runs.assign rfl rfl) ?_
                  refine E.GL.done ?_
                  refine E.QG.code ?_
                  refine E.CG.cond_f rfl ?_
                  refine E.CG.seq ?_
                  refine E.CG.seq ?_
                  refine E.CG.list ?_
                  refine E.GL.cmp rfl rfl rfl (fun _ h => (E.Runs.eql rfl rfl rfl h)) (fun h58 => ?_) (fun h58 => ?_)
                  · refine E.GL.run rfl rfl rfl (E.Runs.assign rfl rfl) ?_
                    refine E.GL.done ?_
                    refine E.QG.code ?_
                    refine E.CG.cond_t rfl ?_
                    refine E.CG.skip ?_
                    refine E.QG.code ?_
                    refine E.CG.cond_t rfl ?_
                    refine E.CG.seq ?_
                    refine E.CG.list ?_
                    refine E.GL.run rfl rfl rfl (E.Runs.fieldAddr rfl rfl hu45 rfl (by assumption) rfl) ?_
                    refine E.GL.run rfl rfl rfl (E.Runs.load rfl rfl hu3 (by first | assumption | exact E.blkc (by assumption) rfl | exact pw_cell_below L (by assumption))) ?_
                    refine E.GL.cmp rfl rfl rfl (fun _ h => (E.Runs.eql rfl rfl rfl h)) (fun h63 => ?_) (fun h63 => ?_)
                    · refine E.GL.run rfl rfl rfl (E.Runs.assign rfl rfl) ?_
                      refine E.GL.done ?_
                      refine E.QG.code ?_
                      refine E.CG.ret ?_
                      refine E.QG.block_ret ?_
                      refine E.QG.pass_ret ?_
                      have hq : DOk V x := by unfold DOk; unfold inR at *; omega
                      exact E.QG.result rfl rfl ⟨by rw [hb.mpr hq] <;> rfl, L⟩
                    · refine E.GL.run rfl rfl rfl (E.Runs.assign rfl rfl) ?_
                      refine E.GL.done ?_
                      refine E.QG.code ?_
                      refine E.CG.ret ?_
                      refine E.QG.block_ret ?_
                      refine E.QG.pass_ret ?_
                      have hq : ¬ DOk V x := by unfold DOk; unfold inR at *; omega
                      exact E.QG.result rfl rfl ⟨by rw [bool_no hb hq] <;> rfl, L⟩
                  · refine E.GL.run rfl rfl rfl (E.Runs.assign rfl rfl) ?_
                    refine E.GL.done ?_
                    refine E.QG.code ?_
                    refine E.CG.cond_f rfl ?_
                    refine E.CG.seq ?_
                    refine E.CG.list ?_
                    refine E.GL.cmp rfl rfl rfl (fun _ h => (E.Runs.eql rfl rfl rfl h)) (fun h59 => ?_) (fun h59 => ?_)
                    · refine E.GL.run rfl rfl rfl (E.Runs.assign rfl rfl) ?_
                      refine E.GL.done ?_
                      refine E.QG.code ?_
                      refine E.CG.cond_t rfl ?_
                      refine E.CG.skip ?_
                      refine E.QG.code ?_
                      refine E.CG.cond_t rfl ?_
                      refine E.CG.seq ?_
                      refine E.CG.list ?_
                      refine E.GL.run rfl rfl rfl (E.Runs.fieldAddr rfl rfl hu45 rfl (by assumption) rfl) ?_
                      refine E.GL.run rfl rfl rfl (E.Runs.load rfl rfl hu3 (by first | assumption | exact E.blkc (by assumption) rfl | exact pw_cell_below L (by assumption))) ?_
                      refine E.GL.cmp rfl rfl rfl (fun _ h => (E.Runs.eql rfl rfl rfl h)) (fun h63 => ?_) (fun h63 => ?_)
                      · refine E.GL.run rfl rfl rfl (E.Runs.assign rfl rfl) ?_
                        refine E.GL.done ?_
                        refine E.QG.code ?_
                        refine E.CG.ret ?_
                        refine E.QG.block_ret ?_
                        refine E.QG.pass_ret ?_
                        have hq : DOk V x := by unfold DOk; unfold inR at *; omega
                        exact E.QG.result rfl rfl ⟨by rw [hb.mpr hq] <;> rfl, L⟩
                      · refine E.GL.run rfl rfl rfl (E.Runs.assign rfl rfl) ?_
                        refine E.GL.done ?_
                        refine E.QG.code ?_
                        refine E.CG.ret ?_
                        refine E.QG.block_ret ?_
                        refine E.QG.pass_ret ?_
                        have hq : ¬ DOk V x := by unfold DOk; unfold inR at *; omega
                        exact E.QG.result rfl rfl ⟨by rw [bool_no hb hq] <;> rfl, L⟩
                    · refine E.GL.run rfl rfl rfl (E.Runs.assign rfl rfl) ?_
                      refine E.GL.done ?_
                      refine E.QG.code ?_
                      refine E.CG.cond_f rfl ?_
                      refine E.CG.list ?_
                      refine E.GL.cmp rfl rfl rfl (fun _ h => (E.Runs.eql rfl rfl rfl h)) (fun h60 => ?_) (fun h60 => ?_)
                      · refine E.GL.run rfl rfl rfl (E.Runs.assign rfl rfl) ?_
                        refine E.GL.done ?_
                        refine E.QG.code ?_
                        refine E.CG.cond_t rfl ?_
                        refine E.CG.seq ?_
                        refine E.CG.list ?_
                        refine E.GL.run rfl rfl rfl (E.Runs.fieldAddr rfl rfl hu45 rfl (by assumption) rfl) ?_
                        refine E.GL.run rfl rfl rfl (E.Runs.load rfl rfl hu3 (by first | assumption | exact E.blkc (by assumption) rfl | exact pw_cell_below L (by assumption))) ?_
                        refine E.GL.cmp rfl rfl rfl (fun _ h => (E.Runs.eql rfl rfl rfl h)) (fun h63 => ?_) (fun h63 => ?_)
                        · refine E.GL.run rfl rfl rfl (E.Runs.assign rfl rfl) ?_
                          refine E.GL.done ?_
                          refine E.QG.code ?_
                          refine E.CG.ret ?_
                          refine E.QG.block_ret ?_
                          refine E.QG.pass_ret ?_
                          have hq : DOk V x := by unfold DOk; unfold inR at *; omega
                          exact E.QG.result rfl rfl ⟨by rw [hb.mpr hq] <;> rfl, L⟩
                        · refine E.GL.run rfl rfl rfl (E.Runs.assign rfl rfl) ?_
                          refine E.GL.done ?_
                          refine E.QG.code ?_
                          refine E.CG.ret ?_
                          refine E.QG.block_ret ?_
                          refine E.QG.pass_ret ?_
                          have hq : ¬ DOk V x := by unfold DOk; unfold inR at *; omega
                          exact E.QG.result rfl rfl ⟨by rw [bool_no hb hq] <;> rfl, L⟩
                      · refine E.GL.run rfl rfl rfl (E.Runs.assign rfl rfl) ?_
                        refine E.GL.done ?_
                        refine E.QG.code ?_
                        refine E.CG.cond_f rfl ?_
                        refine E.CG.skip ?_
                        refine E.QG.block_normal ?_
                        refine E.QG.code ?_
                        refine E.CG.seq ?_
                        refine E.CG.list ?_
                        refine E.GL.run rfl rfl rfl (E.Runs.assign rfl rfl) ?_
                        refine E.GL.done ?_
                        refine E.QG.code ?_
                        refine E.CG.ret ?_
                        have hq : ¬ DOk V x := by unfold DOk; unfold inR at *; omega
                        exact E.QG.result rfl rfl ⟨by rw [bool_no hb hq] <;> rfl, L⟩
            · refine E.GL.st rfl rfl rfl (E.ST.call rfl ent46 (E.evc rfl (E.evc rfl (E.evc rfl E.evn))) ((within_o x.f6 0 500 false (iff_of_false Bool.false_ne_true h46) _).mono ?_))
              rintro e w46 ⟨rfl, l46⟩
              refine ⟨_, rfl, ?_⟩
              replace b2 := blk_below b2 l46
              replace b3 := blk_below b3 l46
              replace L := below_step L l46
              refine E.GL.run rfl rfl rfl (E.Runs.not rfl rfl) ?_
              refine E.GL.run rfl rfl rfl (E.Runs.pick_f rfl rfl rfl) ?_
              refine E.GL.done ?_
              refine E.QG.code ?_
              refine E.CG.cond_t rfl ?_
              refine E.CG.seq ?_
              refine E.CG.list ?_
              refine E.GL.run rfl rfl rfl (E.Runs.assign rfl rfl) ?_
              refine E.GL.done ?_
              refine E.QG.code ?_
              refine E.CG.ret ?_
              refine E.QG.pass_ret ?_
              have hq : ¬ DOk V x := by unfold DOk; unfold inR at *; omega
              exact E.QG.result rfl rfl ⟨by rw [bool_no hb hq] <;> rfl, L⟩
        · refine E.GL.st rfl rfl rfl (E.ST.call rfl ent46 (E.evc rfl (E.evc rfl (E.evc rfl E.evn))) ((within_o x.f4 0 x.f5 false (iff_of_false Bool.false_ne_true h33) _).mono ?_))
          rintro e w33 ⟨rfl, l33⟩
          refine ⟨_, rfl, ?_⟩
          replace b2 := blk_below b2 l33
          replace b3 := blk_below b3 l33
          replace L := below_step L l33
          refine E.GL.run rfl rfl rfl (E.Runs.not rfl rfl) ?_
          refine E.GL.run rfl rfl rfl (E.Runs.pick_f rfl rfl rfl) ?_
          refine E.GL.run rfl rfl rfl (E.Runs.move rfl rfl) ?_
          refine E.GL.skip rfl rfl rfl ?_
          refine E.GL.skip rfl rfl rfl ?_
          refine E.GL.skip rfl rfl rfl ?_
          refine E.GL.skip rfl rfl rfl ?_
          refine E.GL.skip rfl rfl rfl ?_
          refine E.GL.run rfl rfl rfl (E.Runs.pick_t rfl rfl rfl) ?_
          refine E.GL.run rfl rfl rfl (E.Runs.move rfl rfl) ?_
          refine E.GL.skip rfl rfl rfl ?_
          refine E.GL.skip rfl rfl rfl ?_
          refine E.GL.skip rfl rfl rfl ?_
          refine E.GL.skip rfl rfl rfl ?_
          refine E.GL.run rfl rfl rfl (E.Runs.pick_t rfl rfl rfl) ?_
          refine E.GL.done ?_
          refine E.QG.code ?_
          refine E.CG.cond_t rfl ?_
          refine E.CG.seq ?_
          refine E.CG.list ?_
          refine E.GL.run rfl rfl rfl (E.Runs.assign rfl rfl) ?_
          refine E.GL.done ?_
          refine E.QG.code ?_
          refine E.CG.ret ?_
          refine E.QG.pass_ret ?_
          have hq : ¬ DOk V x := by unfold DOk; unfold inR at *; omega
          exact E.QG.result rfl rfl ⟨by rw [bool_no hb hq] <;> rfl, L⟩
    · refine E.GL.st rfl rfl rfl (E.ST.call rfl ent46 (E.evc rfl (E.evc rfl (E.evc rfl E.evn))) ((within_o x.f2 0 x.f3 false (iff_of_false Bool.false_ne_true h18) _).mono ?_))
      rintro e w18 ⟨rfl, l18⟩
      refine ⟨_, rfl, ?_⟩
      replace b2 := blk_below b2 l18
      replace b3 := blk_below b3 l18
      replace L := below_step L l18
      refine E.GL.run rfl rfl rfl (E.Runs.not rfl rfl) ?_
      refine E.GL.run rfl rfl rfl (E.Runs.pick_f rfl rfl rfl) ?_
      refine E.GL.run rfl rfl rfl (E.Runs.move rfl rfl) ?_
      refine E.GL.skip rfl rfl rfl ?_
      refine E.GL.skip rfl rfl rfl ?_
      refine E.GL.skip rfl rfl rfl ?_
      refine E.GL.skip rfl rfl rfl ?_
      refine E.GL.skip rfl rfl rfl ?_
      refine E.GL.run rfl rfl rfl (E.Runs.pick_t rfl rfl rfl) ?_
      refine E.GL.run rfl rfl rfl (E.Runs.move rfl rfl) ?_
      refine E.GL.skip rfl rfl rfl ?_
      refine E.GL.skip rfl rfl rfl ?_
      refine E.GL.skip rfl rfl rfl ?_
      refine E.GL.skip rfl rfl rfl ?_
      refine E.GL.skip rfl rfl rfl ?_
      refine E.GL.skip rfl rfl rfl ?_
      refine E.GL.run rfl rfl rfl (E.Runs.pick_t rfl rfl rfl) ?_
      refine E.GL.run rfl rfl rfl (E.Runs.move rfl rfl) ?_
      refine E.GL.skip rfl rfl rfl ?_
      refine E.GL.skip rfl rfl rfl ?_
      refine E.GL.skip rfl rfl rfl ?_
      refine E.GL.skip rfl rfl rfl ?_
      refine E.GL.skip rfl rfl rfl ?_
      refine E.GL.run rfl rfl rfl (E.Runs.pick_t rfl rfl rfl) ?_
      refine E.GL.run rfl rfl rfl (E.Runs.move rfl rfl) ?_
      refine E.GL.skip rfl rfl rfl ?_
      refine E.GL.skip rfl rfl rfl ?_
      refine E.GL.skip rfl rfl rfl ?_
      refine E.GL.skip rfl rfl rfl ?_
      refine E.GL.run rfl rfl rfl (E.Runs.pick_t rfl rfl rfl) ?_
      refine E.GL.done ?_
      refine E.QG.code ?_
      refine E.CG.cond_t rfl ?_
      refine E.CG.seq ?_
      refine E.CG.list ?_
      refine E.GL.run rfl rfl rfl (E.Runs.assign rfl rfl) ?_
      refine E.GL.done ?_
      refine E.QG.code ?_
      refine E.CG.ret ?_
      refine E.QG.pass_ret ?_
      have hq : ¬ DOk V x := by unfold DOk; unfold inR at *; omega
      exact E.QG.result rfl rfl ⟨by rw [bool_no hb hq] <;> rfl, L⟩
  · refine E.GL.st rfl rfl rfl (E.ST.call rfl ent46 (E.evc rfl (E.evc rfl (E.evc rfl E.evn))) ((within_o x.f1 0 (V.fs.length - 1) false (iff_of_false Bool.false_ne_true h11) _).mono ?_))
    rintro e w11 ⟨rfl, l11⟩
    refine ⟨_, rfl, ?_⟩
    replace b2 := blk_below b2 l11
    replace b3 := blk_below b3 l11
    replace L := below_step L l11
    refine E.GL.run rfl rfl rfl (E.Runs.not rfl rfl) ?_
    refine E.GL.run rfl rfl rfl (E.Runs.move rfl rfl) ?_
    refine E.GL.skip rfl rfl rfl ?_
    refine E.GL.skip rfl rfl rfl ?_
    refine E.GL.skip rfl rfl rfl ?_
    refine E.GL.skip rfl rfl rfl ?_
    refine E.GL.skip rfl rfl rfl ?_
    refine E.GL.skip rfl rfl rfl ?_
    refine E.GL.run rfl rfl rfl (E.Runs.pick_t rfl rfl rfl) ?_
    refine E.GL.run rfl rfl rfl (E.Runs.move rfl rfl) ?_
    refine E.GL.skip rfl rfl rfl ?_
    refine E.GL.skip rfl rfl rfl ?_
    refine E.GL.skip rfl rfl rfl ?_
    refine E.GL.skip rfl rfl rfl ?_
    refine E.GL.skip rfl rfl rfl ?_
    refine E.GL.run rfl rfl rfl (E.Runs.pick_t rfl rfl rfl) ?_
    refine E.GL.run rfl rfl rfl (E.Runs.move rfl rfl) ?_
    refine E.GL.skip rfl rfl rfl ?_
    refine E.GL.skip rfl rfl rfl ?_
    refine E.GL.skip rfl rfl rfl ?_
    refine E.GL.skip rfl rfl rfl ?_
    refine E.GL.skip rfl rfl rfl ?_
    refine E.GL.skip rfl rfl rfl ?_
    refine E.GL.run rfl rfl rfl (E.Runs.pick_t rfl rfl rfl) ?_
    refine E.GL.run rfl rfl rfl (E.Runs.move rfl rfl) ?_
    refine E.GL.skip rfl rfl rfl ?_
    refine E.GL.skip rfl rfl rfl ?_
    refine E.GL.skip rfl rfl rfl ?_
    refine E.GL.skip rfl rfl rfl ?_
    refine E.GL.skip rfl rfl rfl ?_
    refine E.GL.run rfl rfl rfl (E.Runs.pick_t rfl rfl rfl) ?_
    refine E.GL.run rfl rfl rfl (E.Runs.move rfl rfl) ?_
    refine E.GL.skip rfl rfl rfl ?_
    refine E.GL.skip rfl rfl rfl ?_
    refine E.GL.skip rfl rfl rfl ?_
    refine E.GL.skip rfl rfl rfl ?_
    refine E.GL.run rfl rfl rfl (E.Runs.pick_t rfl rfl rfl) ?_
    refine E.GL.done ?_
    refine E.QG.code ?_
    refine E.CG.cond_t rfl ?_
    refine E.CG.seq ?_
    refine E.CG.list ?_
    refine E.GL.run rfl rfl rfl (E.Runs.assign rfl rfl) ?_
    refine E.GL.done ?_
    refine E.QG.code ?_
    refine E.CG.ret ?_
    refine E.QG.pass_ret ?_
    have hq : ¬ DOk V x := by unfold DOk; unfold inR at *; omega
    exact E.QG.result rfl rfl ⟨by rw [bool_no hb hq] <;> rfl, L⟩

set_option maxRecDepth 100000 in
set_option maxHeartbeats 8000000 in

theorem clo57 (V : Wk) (m : Wa) (g : Nat) (w : World) (bg : w.heap[g]? = some (.cells #[.int .i64 V.d, .slice m.A V.rs.length m.a, .int .i64 V.h, .slice m.B V.fs.length m.b, .slice m.C V.ds.length m.c] 26 (0, 0))) (hsf : V.fs.length ≤ 1000000) (x : S45) (r : Bool) (hb : r = true ↔ ¬ DOk V x) :
    Calls Try.prog 57 #[.agg #[.int .i64 x.f0, .int .i64 x.f1, .int .i64 x.f2, .int .i64 x.f3, .int .i64 x.f4, .int .i64 x.f5, .int .i64 x.f6, .int .i64 x.f7], .pointer (some ⟨g, 0, none⟩)] w fun e w' => e = .returned (.bool r) ∧ Below w.heap.size w w' := by
  have hu26 := Try.underlying26
  have hu45 := Try.underlying45
  refine E.enter (N := 8) Try.func57 rfl Try.ntmps57 (args := [.agg #[.int .i64 x.f0, .int .i64 x.f1, .int .i64 x.f2, .int .i64 x.f3, .int .i64 x.f4, .int .i64 x.f5, .int .i64 x.f6, .int .i64 x.f7], .pointer (some ⟨g, 0, none⟩)]) (by simp) ?_
  have L := Below.refl w.heap.size w
  refine E.CG.seq ?_
  refine E.CG.list ?_
  refine E.GL.st rfl rfl rfl (E.ST.box rfl rfl fun g2 w2 e2 b2 l2 => ?_)
  have h2_L : w.heap.size ≤ g2 := by rw [e2]; exact L.size
  have n2_bg : g ≠ g2 := by have := blk_lt bg; omega
  replace bg := blk_below bg l2
  replace L := below_step L l2
  refine E.GL.run rfl rfl rfl (E.Runs.assign rfl rfl) ?_
  refine E.GL.done ?_
  refine E.QG.code ?_
  refine E.CG.seq ?_
  refine E.CG.list ?_
  refine E.GL.run rfl rfl rfl (E.Runs.loads (cs := [.int .i64 V.d, .slice m.A V.rs.length m.a, .int .i64 V.h, .slice m.B V.fs.length m.b, .slice m.C V.ds.length m.c]) rfl rfl hu26 rfl info26s (blk_cells bg)) ?_
  refine E.GL.run rfl rfl rfl (E.Runs.loads (cs := [.int .i64 x.f0, .int .i64 x.f1, .int .i64 x.f2, .int .i64 x.f3, .int .i64 x.f4, .int .i64 x.f5, .int .i64 x.f6, .int .i64 x.f7]) rfl rfl hu45 rfl info45s (blk_cells b2)) ?_
  by_cases h6 : DOk V x
  · refine E.GL.st rfl rfl rfl (E.ST.call rfl ent58 (E.evc rfl (E.evc rfl E.evn)) ((isDeal_o V m x hsf true (iff_of_true rfl h6) _).mono ?_))
    rintro e w6 ⟨rfl, l6⟩
    refine ⟨_, rfl, ?_⟩
    replace bg := blk_below bg l6
    replace b2 := blk_below b2 l6
    replace L := below_step L l6
    refine E.GL.run rfl rfl rfl (E.Runs.not rfl rfl) ?_
    refine E.GL.run rfl rfl rfl (E.Runs.assign rfl rfl) ?_
    refine E.GL.done ?_
    refine E.QG.code ?_
    refine E.CG.ret ?_
    exact E.QG.result rfl rfl ⟨by rw [bool_no hb (fun k => k h6)]; rfl, L⟩
  · refine E.GL.st rfl rfl rfl (E.ST.call rfl ent58 (E.evc rfl (E.evc rfl E.evn)) ((isDeal_o V m x hsf false (iff_of_false Bool.false_ne_true h6) _).mono ?_))
    rintro e w6 ⟨rfl, l6⟩
    refine ⟨_, rfl, ?_⟩
    replace bg := blk_below bg l6
    replace b2 := blk_below b2 l6
    replace L := below_step L l6
    refine E.GL.run rfl rfl rfl (E.Runs.not rfl rfl) ?_
    refine E.GL.run rfl rfl rfl (E.Runs.assign rfl rfl) ?_
    refine E.GL.done ?_
    refine E.QG.code ?_
    refine E.CG.ret ?_
    exact E.QG.result rfl rfl ⟨by rw [hb.mpr h6]; rfl, L⟩

set_option maxRecDepth 100000 in
set_option maxHeartbeats 8000000 in

theorem index71 (V : Wk) (m : Wa) (g : Nat) (w : World) (bg : w.heap[g]? = some (.cells #[.int .i64 V.d, .slice m.A V.rs.length m.a, .int .i64 V.h, .slice m.B V.fs.length m.b, .slice m.C V.ds.length m.c] 26 (0, 0))) (hsf : V.fs.length ≤ 1000000) (l : List S45) (A : Option Addr) (c : Nat) (hr : Kd.C k45 w A l.length l) (hn : l.length ≤ 1000000) :
    Calls Try.prog 71 #[.slice A l.length c, .func (.func 57) #[] #[.pointer (some ⟨g, 0, none⟩)]] w fun e w' => ∃ r : Int, e = .returned (.int .i64 r) ∧ (0 ≤ r ↔ ¬ ∀ x ∈ l, DOk V x) ∧ Below w.heap.size w w' := by
  have hu3 := Try.underlying3
  have hu24 := Try.underlying24
  have hu45 := Try.underlying45
  obtain ⟨z45, o45⟩ := info_some info45s (by decide)
  refine E.enter (N := 19) Try.func71 rfl Try.ntmps71 (args := [.slice A l.length c, .func (.func 57) #[] #[.pointer (some ⟨g, 0, none⟩)]]) (by simp) ?_
  have L := Below.refl w.heap.size w
  refine E.CG.seq ?_
  refine E.CG.list ?_
  refine E.GL.run rfl rfl rfl (E.Runs.assign rfl rfl) ?_
  refine E.GL.done ?_
  refine E.QG.code ?_
  refine E.CG.seq ?_
  refine E.CG.seq ?_
  refine E.CG.list ?_
  refine E.GL.run rfl rfl rfl (E.Runs.move rfl rfl) ?_
  refine E.GL.run rfl rfl rfl (E.Runs.len rfl rfl hu24) ?_
  refine E.GL.run rfl rfl rfl (E.Runs.move rfl rfl) ?_
  refine E.GL.done ?_
  refine E.QG.code ?_
  refine E.CG.block ?_
  have s2_L := L
  refine E.CG.loop (fun (i : Nat) => [(0, .slice A l.length c), (1, .func (.func 57) #[] #[.pointer (some ⟨g, 0, none⟩)]), (7, .int .i64 l.length), (8, .int .i64 i)]) (fun i w' => i ≤ l.length ∧ Below w.heap.size w w' ∧ ∀ k, k < i → ∀ x, l[k]? = some x → DOk V x) (fun i => l.length - i) 0 (E.subc rfl (E.subc rfl (E.subc rfl (E.subc rfl E.subn)))) ⟨Nat.zero_le _, L, fun k hk => by omega⟩ ?_
  rintro i w2 ⟨hi, L, hok⟩
  refine E.CG.seq ?_
  refine E.CG.list ?_
  refine E.GL.cmp rfl rfl rfl (fun _ h => (E.Runs.lss rfl rfl rfl h)) (fun h9 => ?_) (fun h9 => ?_)
  · obtain ⟨x, hx⟩ := get_ex (show i < l.length by omega)
    obtain ⟨ad, eA, X⟩ := deal_at hr hx
    refine E.GL.done ?_
    refine E.QG.code ?_
    refine E.CG.seq ?_
    refine E.CG.cond_t rfl ?_
    refine E.CG.skip ?_
    refine E.QG.code ?_
    refine E.CG.seq ?_
    refine E.CG.block ?_
    refine E.CG.seq ?_
    refine E.CG.list ?_
    refine E.GL.run rfl rfl rfl (E.Runs.move rfl rfl) ?_
    refine E.GL.run rfl rfl rfl (E.Runs.assign rfl rfl) ?_
    refine E.GL.done ?_
    refine E.QG.code ?_
    refine E.CG.seq ?_
    refine E.CG.list ?_
    refine E.GL.run rfl rfl rfl (E.Runs.move rfl rfl) ?_
    refine E.GL.run rfl rfl rfl (E.Runs.move rfl rfl) ?_
    refine E.GL.run rfl rfl rfl (E.Runs.move rfl rfl) ?_
    refine E.GL.run rfl rfl rfl (E.Runs.indexAddrA (i := i) rfl rfl rfl hu24 z45 o45 (by omega) eA rfl) ?_
    refine E.GL.run rfl rfl rfl (E.Runs.loads (cs := [.int .i64 x.f0, .int .i64 x.f1, .int .i64 x.f2, .int .i64 x.f3, .int .i64 x.f4, .int .i64 x.f5, .int .i64 x.f6, .int .i64 x.f7]) rfl rfl hu45 rfl info45s (fun j v hv => pw_cell_below L (X j v hv))) ?_
    by_cases h16 : ¬ DOk V x
    · refine E.GL.st rfl rfl rfl (E.ST.callV (cap := [.pointer (some ⟨g, 0, none⟩)]) rfl ent57 rfl (E.evc rfl E.evn) ((clo57 V m g _ (blk_below bg L) hsf x true (iff_of_true rfl h16)).mono ?_))
      rintro e w16 ⟨rfl, l16⟩
      refine ⟨_, rfl, ?_⟩
      replace L := below_step L l16
      refine E.GL.done ?_
      refine E.QG.code ?_
      refine E.CG.cond_t rfl ?_
      refine E.CG.seq ?_
      refine E.CG.list ?_
      refine E.GL.run rfl rfl rfl (E.Runs.move rfl rfl) ?_
      refine E.GL.run rfl rfl rfl (E.Runs.assign rfl rfl) ?_
      refine E.GL.done ?_
      refine E.QG.code ?_
      refine E.CG.ret ?_
      refine E.QG.block_ret ?_
      refine E.QG.pass_ret ?_
      refine E.QG.pass_ret ?_
      refine E.QG.block_ret ?_
      refine E.QG.pass_ret ?_
      exact E.QG.result rfl rfl ⟨_, rfl, iff_of_true (by omega) (fun k => h16 (k x (List.mem_of_getElem? hx))), L⟩
    · refine E.GL.st rfl rfl rfl (E.ST.callV (cap := [.pointer (some ⟨g, 0, none⟩)]) rfl ent57 rfl (E.evc rfl E.evn) ((clo57 V m g _ (blk_below bg L) hsf x false (iff_of_false Bool.false_ne_true h16)).mono ?_))
      rintro e w16 ⟨rfl, l16⟩
      refine ⟨_, rfl, ?_⟩
      replace L := below_step L l16
      refine E.GL.done ?_
      refine E.QG.code ?_
      refine E.CG.cond_f rfl ?_
      refine E.CG.skip ?_
      refine E.QG.block_normal ?_
      refine E.QG.code ?_
      refine E.CG.list ?_
      refine E.GL.run rfl rfl rfl (E.Runs.add rfl rfl rfl (IntWalk.i64_in _ (by omega))) ?_
      refine E.GL.run rfl rfl rfl (E.Runs.move rfl rfl) ?_
      refine E.GL.done ?_
      exact E.QG.round (i + 1) (E.subc rfl (E.subc rfl (E.subc rfl (E.subc rfl E.subn)))) ⟨by omega, L, all_more hok hx (Decidable.not_not.mp h16)⟩ (by omega)
  · refine E.GL.done ?_
    refine E.QG.code ?_
    refine E.CG.seq ?_
    refine E.CG.cond_f rfl ?_
    refine E.CG.exit ?_
    refine E.QG.pass_exit ?_
    refine E.QG.pass_exit ?_
    refine E.QG.block_here ?_
    refine E.QG.code ?_
    refine E.CG.seq ?_
    refine E.CG.list ?_
    refine E.GL.run rfl rfl rfl (E.Runs.assign rfl rfl) ?_
    refine E.GL.done ?_
    refine E.QG.code ?_
    refine E.CG.ret ?_
    exact E.QG.result rfl rfl ⟨_, rfl, iff_of_false (by omega) (fun k => k (all_done hok (by omega))), L⟩

set_option maxRecDepth 100000 in
set_option maxHeartbeats 8000000 in

theorem contains56 (V : Wk) (m : Wa) (g : Nat) (w : World) (bg : w.heap[g]? = some (.cells #[.int .i64 V.d, .slice m.A V.rs.length m.a, .int .i64 V.h, .slice m.B V.fs.length m.b, .slice m.C V.ds.length m.c] 26 (0, 0))) (hsf : V.fs.length ≤ 1000000) (l : List S45) (A : Option Addr) (c : Nat) (hr : Kd.C k45 w A l.length l) (hn : l.length ≤ 1000000) (r : Bool) (hb : r = true ↔ ¬ ∀ x ∈ l, DOk V x) :
    Calls Try.prog 56 #[.slice A l.length c, .func (.func 57) #[] #[.pointer (some ⟨g, 0, none⟩)]] w fun e w' => e = .returned (.bool r) ∧ Below w.heap.size w w' := by
  have hu3 := Try.underlying3
  have hu24 := Try.underlying24
  refine E.enter (N := 9) Try.func56 rfl Try.ntmps56 (args := [.slice A l.length c, .func (.func 57) #[] #[.pointer (some ⟨g, 0, none⟩)]]) (by simp) ?_
  have L := Below.refl w.heap.size w
  refine E.CG.seq ?_
  refine E.CG.list ?_
  refine E.GL.run rfl rfl rfl (E.Runs.assign rfl rfl) ?_
  refine E.GL.done ?_
  refine E.QG.code ?_
  refine E.CG.seq ?_
  refine E.CG.list ?_
  refine E.GL.run rfl rfl rfl (E.Runs.move rfl rfl) ?_
  refine E.GL.run rfl rfl rfl (E.Runs.move rfl rfl) ?_
  refine E.GL.st rfl rfl rfl (E.ST.call rfl ent71 (E.evc rfl (E.evc rfl E.evn)) ((index71 V m g _ (blk_below bg L) hsf l A c (Kd.C_below hr L) hn).mono ?_))
  rintro e w7 ⟨q, rfl, hq, l7⟩
  refine ⟨_, rfl, ?_⟩
  replace L := below_step L l7
  refine E.GL.cmp rfl rfl rfl (fun _ h => (E.Runs.geq rfl rfl rfl h)) (fun h8 => ?_) (fun h8 => ?_)
  · refine E.GL.run rfl rfl rfl (E.Runs.assign rfl rfl) ?_
    refine E.GL.done ?_
    refine E.QG.code ?_
    refine E.CG.ret ?_
    exact E.QG.result rfl rfl ⟨by rw [hb.mpr (hq.mp h8)], L⟩
  · refine E.GL.run rfl rfl rfl (E.Runs.assign rfl rfl) ?_
    refine E.GL.done ?_
    refine E.QG.code ?_
    refine E.CG.ret ?_
    exact E.QG.result rfl rfl ⟨by rw [bool_no hb (fun k => h8 (hq.mpr k))], L⟩

set_option maxRecDepth 100000 in
set_option maxHeartbeats 8000000 in

theorem check_o (V : Wk) (m : Wa) (w : World) (hV : WM w V m) (hs : Sz V) :
    Calls Try.prog 31 #[wv V m] w fun e w' => e = .returned (.int .i64 (chk V)) ∧ Below w.heap.size w w' := by
  have hu24 := Try.underlying24
  have hu26 := Try.underlying26
  obtain ⟨z24, o24⟩ := info_some info24s (by decide)
  refine E.enter (N := 10) Try.func31 rfl Try.ntmps31 (args := [wv V m]) (by simp) ?_
  have L := Below.refl w.heap.size w
  refine E.CG.seq ?_
  refine E.CG.list ?_
  refine E.GL.st rfl rfl rfl (E.ST.box rfl rfl fun g1 w1 e1 b1 l1 => ?_)
  have h1_L : w.heap.size ≤ g1 := by rw [e1]; exact L.size
  replace L := below_step L l1
  refine E.GL.run rfl rfl rfl (E.Runs.assign rfl rfl) ?_
  refine E.GL.done ?_
  refine E.QG.code ?_
  refine E.CG.seq ?_
  refine E.CG.seq ?_
  refine E.CG.list ?_
  refine E.GL.run rfl rfl rfl (E.Runs.loads (cs := [.int .i64 V.d, .slice m.A V.rs.length m.a, .int .i64 V.h, .slice m.B V.fs.length m.b, .slice m.C V.ds.length m.c]) rfl rfl hu26 rfl info26s (blk_cells b1)) ?_
  by_cases h4 : Shp V
  · refine E.GL.st rfl rfl rfl (E.ST.call rfl ent55 (E.evc rfl E.evn) ((isWeek_calls V m _ (hV.below L) hs true (iff_of_true rfl h4)).mono ?_))
    rintro e w4 ⟨rfl, l4⟩
    refine ⟨_, rfl, ?_⟩
    replace b1 := blk_below b1 l4
    replace L := below_step L l4
    refine E.GL.run rfl rfl rfl (E.Runs.not rfl rfl) ?_
    refine E.GL.done ?_
    refine E.QG.code ?_
    refine E.CG.cond_f rfl ?_
    refine E.CG.skip ?_
    refine E.QG.code ?_
    refine E.CG.seq ?_
    refine E.CG.seq ?_
    refine E.CG.list ?_
    refine E.GL.run rfl rfl rfl (E.Runs.fieldAddr rfl rfl hu26 rfl (by assumption) rfl) ?_
    refine E.GL.run rfl rfl rfl (E.Runs.load1 rfl rfl hu24 rfl (by first | assumption | exact E.blkc (by assumption) rfl | exact pw_cell_below L (by assumption))) ?_
    refine E.GL.run rfl rfl rfl (E.Runs.makeFunc rfl (E.evc rfl E.evn)) ?_
    by_cases h9 : ¬ ∀ x ∈ V.ds, DOk V x
    · refine E.GL.st rfl rfl rfl (E.ST.call rfl ent56 (E.evc rfl (E.evc rfl E.evn)) ((contains56 V m g1 _ b1 hs.f V.ds m.C m.c (Kd.C_below hV.ds L) hs.d true (iff_of_true rfl h9)).mono ?_))
      rintro e w9 ⟨rfl, l9⟩
      refine ⟨_, rfl, ?_⟩
      replace b1 := blk_below b1 l9
      replace L := below_step L l9
      refine E.GL.done ?_
      refine E.QG.code ?_
      refine E.CG.cond_t rfl ?_
      refine E.CG.seq ?_
      refine E.CG.list ?_
      refine E.GL.run rfl rfl rfl (E.Runs.assign rfl rfl) ?_
      refine E.GL.done ?_
      refine E.QG.code ?_
      refine E.CG.ret ?_
      refine E.QG.pass_ret ?_
      exact E.QG.result rfl rfl ⟨by rw [chk_ds h4 h9], L⟩
    · refine E.GL.st rfl rfl rfl (E.ST.call rfl ent56 (E.evc rfl (E.evc rfl E.evn)) ((contains56 V m g1 _ b1 hs.f V.ds m.C m.c (Kd.C_below hV.ds L) hs.d false (iff_of_false Bool.false_ne_true h9)).mono ?_))
      rintro e w9 ⟨rfl, l9⟩
      refine ⟨_, rfl, ?_⟩
      replace b1 := blk_below b1 l9
      replace L := below_step L l9
      refine E.GL.done ?_
      refine E.QG.code ?_
      refine E.CG.cond_f rfl ?_
      refine E.CG.skip ?_
      refine E.QG.code ?_
      refine E.CG.seq ?_
      refine E.CG.list ?_
      refine E.GL.run rfl rfl rfl (E.Runs.assign rfl rfl) ?_
      refine E.GL.done ?_
      refine E.QG.code ?_
      refine E.CG.ret ?_
      exact E.QG.result rfl rfl ⟨by rw [chk_yes h4 (Decidable.not_not.mp h9)], L⟩
  · refine E.GL.st rfl rfl rfl (E.ST.call rfl ent55 (E.evc rfl E.evn) ((isWeek_calls V m _ (hV.below L) hs false (iff_of_false Bool.false_ne_true h4)).mono ?_))
    rintro e w4 ⟨rfl, l4⟩
    refine ⟨_, rfl, ?_⟩
    replace b1 := blk_below b1 l4
    replace L := below_step L l4
    refine E.GL.run rfl rfl rfl (E.Runs.not rfl rfl) ?_
    refine E.GL.done ?_
    refine E.QG.code ?_
    refine E.CG.cond_t rfl ?_
    refine E.CG.seq ?_
    refine E.CG.list ?_
    refine E.GL.run rfl rfl rfl (E.Runs.assign rfl rfl) ?_
    refine E.GL.done ?_
    refine E.QG.code ?_
    refine E.CG.ret ?_
    refine E.QG.pass_ret ?_
    exact E.QG.result rfl rfl ⟨by rw [chk_shp h4], L⟩

set_option maxRecDepth 100000 in
set_option maxHeartbeats 8000000 in

theorem isMovie_r (h : Int) (x : S49) (a0 : Option Addr) (k0 : Nat) (w : World) (hx0 : Kd.C kI w a0 x.f1.length x.f1) (hxn : x.f1.length ≤ 1000000) (r : Bool) (hb : r = true ↔ MvOk h x) :
    Calls Try.prog 50 #[.int .i64 h, .agg #[.int .i64 x.f0, .slice a0 x.f1.length k0]] w fun e w' => e = .returned (.bool r) ∧ Below w.heap.size w w' := by
  have hu3 := Try.underlying3
  have hu22 := Try.underlying22
  have hu49 := Try.underlying49
  obtain ⟨z3, o3⟩ := info_some info3s (by decide)
  obtain ⟨z22, o22⟩ := info_some info22s (by decide)
  refine E.enter (N := 29) Try.func50 rfl Try.ntmps50 (args := [.int .i64 h, .agg #[.int .i64 x.f0, .slice a0 x.f1.length k0]]) (by simp) ?_
  have L := Below.refl w.heap.size w
  refine E.CG.seq ?_
  refine E.CG.list ?_
  refine E.GL.st rfl rfl rfl (E.ST.box rfl rfl fun g3 w3 e3 b3 l3 => ?_)
  have h3_L : w.heap.size ≤ g3 := by rw [e3]; exact L.size
  replace L := below_step L l3
  refine E.GL.run rfl rfl rfl (E.Runs.assign rfl rfl) ?_
  refine E.GL.done ?_
  refine E.QG.code ?_
  refine E.CG.seq ?_
  refine E.CG.seq ?_
  refine E.CG.list ?_
  refine E.GL.run rfl rfl rfl (E.Runs.fieldAddr rfl rfl hu49 rfl (by assumption) rfl) ?_
  refine E.GL.run rfl rfl rfl (E.Runs.load rfl rfl hu3 (by first | assumption | exact E.blkc (by assumption) rfl | exact pw_cell_below L (by assumption))) ?_
  by_cases h8 : inR x.f0 0 100
  · refine E.GL.st rfl rfl rfl (E.ST.call rfl ent47 (E.evc rfl (E.evc rfl (E.evc rfl E.evn))) ((within_r x.f0 0 100 true (iff_of_true rfl h8) _).mono ?_))
    rintro e w8 ⟨rfl, l8⟩
    refine ⟨_, rfl, ?_⟩
    replace b3 := blk_below b3 l8
    replace L := below_step L l8
    refine E.GL.run rfl rfl rfl (E.Runs.not rfl rfl) ?_
    refine E.GL.run rfl rfl rfl (E.Runs.move rfl rfl) ?_
    refine E.GL.run rfl rfl rfl (E.Runs.fieldAddr rfl rfl hu49 rfl (by assumption) rfl) ?_
    refine E.GL.run rfl rfl rfl (E.Runs.load1 rfl rfl hu22 rfl (by first | assumption | exact E.blkc (by assumption) rfl | exact pw_cell_below L (by assumption))) ?_
    refine E.GL.run rfl rfl rfl (E.Runs.len rfl rfl hu22) ?_
    refine E.GL.run rfl rfl rfl (E.Runs.move rfl rfl) ?_
    refine E.GL.cmpn rfl rfl rfl (fun _ h => (E.Runs.neq rfl rfl rfl h)) (fun h15 => ?_) (fun h15 => ?_)
    · refine E.GL.run rfl rfl rfl (E.Runs.pick_f rfl rfl rfl) ?_
      refine E.GL.done ?_
      refine E.QG.code ?_
      refine E.CG.cond_t rfl ?_
      refine E.CG.seq ?_
      refine E.CG.list ?_
      refine E.GL.run rfl rfl rfl (E.Runs.assign rfl rfl) ?_
      refine E.GL.done ?_
      refine E.QG.code ?_
      refine E.CG.ret ?_
      refine E.QG.pass_ret ?_
      exact E.QG.result rfl rfl ⟨by rw [bool_no hb (fun k => by have := k.2.1; omega)] <;> rfl, L⟩
    · refine E.GL.run rfl rfl rfl (E.Runs.pick_f rfl rfl rfl) ?_
      refine E.GL.done ?_
      refine E.QG.code ?_
      refine E.CG.cond_f rfl ?_
      refine E.CG.skip ?_
      refine E.QG.code ?_
      refine E.CG.seq ?_
      refine E.CG.seq ?_
      refine E.CG.list ?_
      refine E.GL.run rfl rfl rfl (E.Runs.assign rfl rfl) ?_
      refine E.GL.done ?_
      refine E.QG.code ?_
      refine E.CG.block ?_
      have s4_b3 := b3
      have s4_L := L
      refine E.CG.loop (fun (i : Nat) => [(0, .int .i64 h), (3, .pointer (some ⟨g3, 0, none⟩)), (5, .int .i64 i)]) (fun i w' => i ≤ x.f1.length ∧ (∀ k, k < i → ∀ y, x.f1[k]? = some y → 0 ≤ y ∧ y ≤ 999) ∧ w'.heap[g3]? = some (.cells #[.int .i64 x.f0, .slice a0 x.f1.length k0] 49 (0, 0)) ∧ Below w.heap.size w w') (fun i => x.f1.length - i) 0 (E.subc rfl (E.subc rfl (E.subc rfl E.subn))) ⟨Nat.zero_le _, fun k hk => by omega, b3, L⟩ ?_
      rintro i w4 ⟨hi, hok, b3, L⟩
      refine E.CG.seq ?_
      refine E.CG.seq ?_
      refine E.CG.list ?_
      refine E.GL.run rfl rfl rfl (E.Runs.move rfl rfl) ?_
      refine E.GL.run rfl rfl rfl (E.Runs.move rfl rfl) ?_
      refine E.GL.cmp rfl rfl rfl (fun _ h => (E.Runs.lss rfl rfl rfl h)) (fun h19 => ?_) (fun h19 => ?_)
      · obtain ⟨y, hy⟩ := get_ex (show i < x.f1.length by omega)
        obtain ⟨ad, eA, X⟩ := int_at hx0 hy
        refine E.GL.done ?_
        refine E.QG.code ?_
        refine E.CG.cond_t rfl ?_
        refine E.CG.skip ?_
        refine E.QG.code ?_
        refine E.CG.seq ?_
        refine E.CG.block ?_
        refine E.CG.seq ?_
        refine E.CG.list ?_
        refine E.GL.run rfl rfl rfl (E.Runs.fieldAddr rfl rfl hu49 rfl (by assumption) rfl) ?_
        refine E.GL.run rfl rfl rfl (E.Runs.load1 rfl rfl hu22 rfl (by first | assumption | exact E.blkc (by assumption) rfl | exact pw_cell_below L (by assumption))) ?_
        refine E.GL.run rfl rfl rfl (E.Runs.move rfl rfl) ?_
        refine E.GL.run rfl rfl rfl (E.Runs.indexAddrA (i := i) rfl rfl rfl hu22 z3 o3 (by omega) eA rfl) ?_
        refine E.GL.run rfl rfl rfl (E.Runs.load rfl rfl hu3 (pw_cell_below L X)) ?_
        by_cases h27 : inR y 0 999
        · refine E.GL.st rfl rfl rfl (E.ST.call rfl ent47 (E.evc rfl (E.evc rfl (E.evc rfl E.evn))) ((within_r y 0 999 true (iff_of_true rfl h27) _).mono ?_))
          rintro e w27 ⟨rfl, l27⟩
          refine ⟨_, rfl, ?_⟩
          replace b3 := blk_below b3 l27
          replace L := below_step L l27
          refine E.GL.run rfl rfl rfl (E.Runs.not rfl rfl) ?_
          refine E.GL.done ?_
          refine E.QG.code ?_
          refine E.CG.cond_f rfl ?_
          refine E.CG.skip ?_
          refine E.QG.block_normal ?_
          refine E.QG.code ?_
          refine E.CG.list ?_
          refine E.GL.run rfl rfl rfl (E.Runs.move rfl rfl) ?_
          refine E.GL.run rfl rfl rfl (E.Runs.add rfl rfl rfl (IntWalk.i64_in _ (by omega))) ?_
          refine E.GL.run rfl rfl rfl (E.Runs.assign rfl rfl) ?_
          refine E.GL.done ?_
          exact E.QG.round (i + 1) (E.subc rfl (E.subc rfl (E.subc rfl E.subn))) ⟨by omega, all_more hok hy h27, b3, L⟩ (by omega)
        · refine E.GL.st rfl rfl rfl (E.ST.call rfl ent47 (E.evc rfl (E.evc rfl (E.evc rfl E.evn))) ((within_r y 0 999 false (iff_of_false Bool.false_ne_true h27) _).mono ?_))
          rintro e w27 ⟨rfl, l27⟩
          refine ⟨_, rfl, ?_⟩
          replace b3 := blk_below b3 l27
          replace L := below_step L l27
          refine E.GL.run rfl rfl rfl (E.Runs.not rfl rfl) ?_
          refine E.GL.done ?_
          refine E.QG.code ?_
          refine E.CG.cond_t rfl ?_
          refine E.CG.seq ?_
          refine E.CG.list ?_
          refine E.GL.run rfl rfl rfl (E.Runs.assign rfl rfl) ?_
          refine E.GL.done ?_
          refine E.QG.code ?_
          refine E.CG.ret ?_
          refine E.QG.block_ret ?_
          refine E.QG.pass_ret ?_
          refine E.QG.pass_ret ?_
          refine E.QG.block_ret ?_
          refine E.QG.pass_ret ?_
          exact E.QG.result rfl rfl ⟨by rw [bool_no hb (fun k => h27 (k.2.2 y (List.mem_of_getElem? hy)))] <;> rfl, L⟩
      · refine E.GL.done ?_
        refine E.QG.code ?_
        refine E.CG.cond_f rfl ?_
        refine E.CG.exit ?_
        refine E.QG.pass_exit ?_
        refine E.QG.pass_exit ?_
        refine E.QG.block_here ?_
        refine E.QG.code ?_
        refine E.CG.seq ?_
        refine E.CG.list ?_
        refine E.GL.run rfl rfl rfl (E.Runs.assign rfl rfl) ?_
        refine E.GL.done ?_
        refine E.QG.code ?_
        refine E.CG.ret ?_
        exact E.QG.result rfl rfl ⟨by rw [hb.mpr (⟨h8, by omega, all_done hok (by omega)⟩)] <;> rfl, L⟩
  · refine E.GL.st rfl rfl rfl (E.ST.call rfl ent47 (E.evc rfl (E.evc rfl (E.evc rfl E.evn))) ((within_r x.f0 0 100 false (iff_of_false Bool.false_ne_true h8) _).mono ?_))
    rintro e w8 ⟨rfl, l8⟩
    refine ⟨_, rfl, ?_⟩
    replace b3 := blk_below b3 l8
    replace L := below_step L l8
    refine E.GL.run rfl rfl rfl (E.Runs.not rfl rfl) ?_
    refine E.GL.run rfl rfl rfl (E.Runs.move rfl rfl) ?_
    refine E.GL.skip rfl rfl rfl ?_
    refine E.GL.skip rfl rfl rfl ?_
    refine E.GL.skip rfl rfl rfl ?_
    refine E.GL.skip rfl rfl rfl ?_
    refine E.GL.skip rfl rfl rfl ?_
    refine E.GL.run rfl rfl rfl (E.Runs.pick_t rfl rfl rfl) ?_
    refine E.GL.done ?_
    refine E.QG.code ?_
    refine E.CG.cond_t rfl ?_
    refine E.CG.seq ?_
    refine E.CG.list ?_
    refine E.GL.run rfl rfl rfl (E.Runs.assign rfl rfl) ?_
    refine E.GL.done ?_
    refine E.QG.code ?_
    refine E.CG.ret ?_
    refine E.QG.pass_ret ?_
    exact E.QG.result rfl rfl ⟨by rw [bool_no hb (fun k => h8 k.1)] <;> rfl, L⟩

set_option maxRecDepth 100000 in
set_option maxHeartbeats 8000000 in

theorem isDeal_r (V : Wk) (m : Wa) (x : S45) (hsf : V.fs.length ≤ 1000000) (r : Bool) (hb : r = true ↔ DOk V x) (w : World) :
    Calls Try.prog 51 #[wv V m, .agg #[.int .i64 x.f0, .int .i64 x.f1, .int .i64 x.f2, .int .i64 x.f3, .int .i64 x.f4, .int .i64 x.f5, .int .i64 x.f6, .int .i64 x.f7]] w fun e w' => e = .returned (.bool r) ∧ Below w.heap.size w w' := by
  have hu3 := Try.underlying3
  have hu23 := Try.underlying23
  have hu26 := Try.underlying26
  have hu45 := Try.underlying45
  obtain ⟨z3, o3⟩ := info_some info3s (by decide)
  obtain ⟨z23, o23⟩ := info_some info23s (by decide)
  refine E.enter (N := 71) Try.func51 rfl Try.ntmps51 (args := [wv V m, .agg #[.int .i64 x.f0, .int .i64 x.f1, .int .i64 x.f2, .int .i64 x.f3, .int .i64 x.f4, .int .i64 x.f5, .int .i64 x.f6, .int .i64 x.f7]]) (by simp) ?_
  have L := Below.refl w.heap.size w
  refine E.CG.seq ?_
  refine E.CG.list ?_
  refine E.GL.st rfl rfl rfl (E.ST.box rfl rfl fun g2 w2 e2 b2 l2 => ?_)
  have h2_L : w.heap.size ≤ g2 := by rw [e2]; exact L.size
  replace L := below_step L l2
  refine E.GL.st rfl rfl rfl (E.ST.box rfl rfl fun g3 w3 e3 b3 l3 => ?_)
  have h3_L : w.heap.size ≤ g3 := by rw [e3]; exact L.size
  have n3_b2 : g2 ≠ g3 := by have := blk_lt b2; omega
  replace b2 := blk_below b2 l3
  replace L := below_step L l3
  refine E.GL.run rfl rfl rfl (E.Runs.assign rfl rfl) ?_
  refine E.GL.done ?_
  refine E.QG.code ?_
  refine E.CG.seq ?_
  refine E.CG.seq ?_
  refine E.CG.list ?_
  refine E.GL.run rfl rfl rfl (E.Runs.fieldAddr rfl rfl hu45 rfl (by assumption) rfl) ?_
  refine E.GL.run rfl rfl rfl (E.Runs.load rfl rfl hu3 (by first | assumption | exact E.blkc (by assumption) rfl | exact pw_cell_below L (by assumption))) ?_
  by_cases h7 : inR x.f0 1 5
  · refine E.GL.st rfl rfl rfl (E.ST.call rfl ent47 (E.evc rfl (E.evc rfl (E.evc rfl E.evn))) ((within_r x.f0 1 5 true (iff_of_true rfl h7) _).mono ?_))
    rintro e w7 ⟨rfl, l7⟩
    refine ⟨_, rfl, ?_⟩
    replace b2 := blk_below b2 l7
    replace b3 := blk_below b3 l7
    replace L := below_step L l7
    refine E.GL.run rfl rfl rfl (E.Runs.not rfl rfl) ?_
    refine E.GL.run rfl rfl rfl (E.Runs.move rfl rfl) ?_
    refine E.GL.run rfl rfl rfl (E.Runs.fieldAddr rfl rfl hu45 rfl (by assumption) rfl) ?_
    refine E.GL.run rfl rfl rfl (E.Runs.load rfl rfl hu3 (by first | assumption | exact E.blkc (by assumption) rfl | exact pw_cell_below L (by assumption))) ?_
    refine E.GL.run rfl rfl rfl (E.Runs.fieldAddr rfl rfl hu26 rfl (by assumption) rfl) ?_
    refine E.GL.run rfl rfl rfl (E.Runs.load1 rfl rfl hu23 rfl (by first | assumption | exact E.blkc (by assumption) rfl | exact pw_cell_below L (by assumption))) ?_
    refine E.GL.run rfl rfl rfl (E.Runs.len rfl rfl hu23) ?_
    refine E.GL.run rfl rfl rfl (E.Runs.sub rfl rfl rfl (IntWalk.i64_in _ (by omega))) ?_
    by_cases h16 : inR x.f1 0 (V.fs.length - 1)
    · refine E.GL.st rfl rfl rfl (E.ST.call rfl ent47 (E.evc rfl (E.evc rfl (E.evc rfl E.evn))) ((within_r x.f1 0 (V.fs.length - 1) true (iff_of_true rfl h16) _).mono ?_))
      rintro e w16 ⟨rfl, l16⟩
      refine ⟨_, rfl, ?_⟩
      replace b2 := blk_below b2 l16
      replace b3 := blk_below b3 l16
      replace L := below_step L l16
      refine E.GL.run rfl rfl rfl (E.Runs.not rfl rfl) ?_
      refine E.GL.run rfl rfl rfl (E.Runs.pick_f rfl rfl rfl) ?_
      refine E.GL.run rfl rfl rfl (E.Runs.move rfl rfl) ?_
      refine E.GL.run rfl rfl rfl (E.Runs.fieldAddr rfl rfl hu45 rfl (by assumption) rfl) ?_
      refine E.GL.run rfl rfl rfl (E.Runs.load rfl rfl hu3 (by first | assumption | exact E.blkc (by assumption) rfl | exact pw_cell_below L (by assumption))) ?_
      by_cases h22 : inR x.f7 0 8
      · refine E.GL.st rfl rfl rfl (E.ST.call rfl ent47 (E.evc rfl (E.evc rfl (E.evc rfl E.evn))) ((within_r x.f7 0 8 true (iff_of_true rfl h22) _).mono ?_))
        rintro e w22 ⟨rfl, l22⟩
        refine ⟨_, rfl, ?_⟩
        replace b2 := blk_below b2 l22
        replace b3 := blk_below b3 l22
        replace L := below_step L l22
        refine E.GL.run rfl rfl rfl (E.Runs.not rfl rfl) ?_
        refine E.GL.run rfl rfl rfl (E.Runs.pick_f rfl rfl rfl) ?_
        refine E.GL.run rfl rfl rfl (E.Runs.move rfl rfl) ?_
        refine E.GL.run rfl rfl rfl (E.Runs.fieldAddr rfl rfl hu45 rfl (by assumption) rfl) ?_
        refine E.GL.run rfl rfl rfl (E.Runs.load rfl rfl hu3 (by first | assumption | exact E.blkc (by assumption) rfl | exact pw_cell_below L (by assumption))) ?_
        refine E.GL.cmpn rfl rfl rfl (fun _ h => (E.Runs.neq rfl rfl rfl h)) (fun h28 => ?_) (fun h28 => ?_)
        · refine E.GL.run rfl rfl rfl (E.Runs.move rfl rfl) ?_
          refine E.GL.run rfl rfl rfl (E.Runs.fieldAddr rfl rfl hu45 rfl (by assumption) rfl) ?_
          refine E.GL.run rfl rfl rfl (E.Runs.load rfl rfl hu3 (by first | assumption | exact E.blkc (by assumption) rfl | exact pw_cell_below L (by assumption))) ?_
          refine E.GL.cmpn rfl rfl rfl (fun _ h => (E.Runs.neq rfl rfl rfl h)) (fun h32 => ?_) (fun h32 => ?_)
          · refine E.GL.run rfl rfl rfl (E.Runs.pick_t rfl rfl rfl) ?_
            refine E.GL.run rfl rfl rfl (E.Runs.move rfl rfl) ?_
            refine E.GL.run rfl rfl rfl (E.Runs.fieldAddr rfl rfl hu45 rfl (by assumption) rfl) ?_
            refine E.GL.run rfl rfl rfl (E.Runs.load rfl rfl hu3 (by first | assumption | exact E.blkc (by assumption) rfl | exact pw_cell_below L (by assumption))) ?_
            refine E.GL.cmpn rfl rfl rfl (fun _ h => (E.Runs.neq rfl rfl rfl h)) (fun h37 => ?_) (fun h37 => ?_)
            · refine E.GL.run rfl rfl rfl (E.Runs.pick_t rfl rfl rfl) ?_
              refine E.GL.run rfl rfl rfl (E.Runs.pick_f rfl rfl rfl) ?_
              refine E.GL.done ?_
              refine E.QG.code ?_
              refine E.CG.cond_t rfl ?_
              refine E.CG.seq ?_
              refine E.CG.list ?_
              refine E.GL.run rfl rfl rfl (E.Runs.assign rfl rfl) ?_
              refine E.GL.done ?_
              refine E.QG.code ?_
              refine E.CG.ret ?_
              refine E.QG.pass_ret ?_
              have hq : ¬ DOk V x := by unfold DOk; unfold inR at *; omega
              exact E.QG.result rfl rfl ⟨by rw [bool_no hb hq] <;> rfl, L⟩
            · refine E.GL.run rfl rfl rfl (E.Runs.pick_t rfl rfl rfl) ?_
              refine E.GL.run rfl rfl rfl (E.Runs.pick_f rfl rfl rfl) ?_
              refine E.GL.done ?_
              refine E.QG.code ?_
              refine E.CG.cond_f rfl ?_
              refine E.CG.skip ?_
              refine E.QG.code ?_
              refine E.CG.seq ?_
              refine E.CG.list ?_
              refine E.GL.run rfl rfl rfl (E.Runs.fieldAddr rfl rfl hu45 rfl (by assumption) rfl) ?_
              refine E.GL.run rfl rfl rfl (E.Runs.load rfl rfl hu3 (by first | assumption | exact E.blkc (by assumption) rfl | exact pw_cell_below L (by assumption))) ?_
              refine E.GL.run rfl rfl rfl (E.Runs.fieldAddr rfl rfl hu45 rfl (by assumption) rfl) ?_
              refine E.GL.run rfl rfl rfl (E.Runs.load rfl rfl hu3 (by first | assumption | exact E.blkc (by assumption) rfl | exact pw_cell_below L (by assumption))) ?_
              by_cases h44 : inR x.f2 0 x.f3
              · refine E.GL.st rfl rfl rfl (E.ST.call rfl ent47 (E.evc rfl (E.evc rfl (E.evc rfl E.evn))) ((within_r x.f2 0 x.f3 true (iff_of_true rfl h44) _).mono ?_))
                rintro e w44 ⟨rfl, l44⟩
                refine ⟨_, rfl, ?_⟩
                replace b2 := blk_below b2 l44
                replace b3 := blk_below b3 l44
                replace L := below_step L l44
                refine E.GL.run rfl rfl rfl (E.Runs.move rfl rfl) ?_
                refine E.GL.run rfl rfl rfl (E.Runs.fieldAddr rfl rfl hu45 rfl (by assumption) rfl) ?_
                refine E.GL.run rfl rfl rfl (E.Runs.load rfl rfl hu3 (by first | assumption | exact E.blkc (by assumption) rfl | exact pw_cell_below L (by assumption))) ?_
                refine E.GL.run rfl rfl rfl (E.Runs.fieldAddr rfl rfl hu26 rfl (by assumption) rfl) ?_
                refine E.GL.run rfl rfl rfl (E.Runs.load rfl rfl hu3 (by first | assumption | exact E.blkc (by assumption) rfl | exact pw_cell_below L (by assumption))) ?_
                refine E.GL.cmp rfl rfl rfl (fun _ h => (E.Runs.lss rfl rfl rfl h)) (fun h50 => ?_) (fun h50 => ?_)
                · refine E.GL.run rfl rfl rfl (E.Runs.pick_t rfl rfl rfl) ?_
                  refine E.GL.run rfl rfl rfl (E.Runs.move rfl rfl) ?_
                  refine E.GL.run rfl rfl rfl (E.Runs.fieldAddr rfl rfl hu45 rfl (by assumption) rfl) ?_
                  refine E.GL.run rfl rfl rfl (E.Runs.load rfl rfl hu3 (by first | assumption | exact E.blkc (by assumption) rfl | exact pw_cell_below L (by assumption))) ?_
                  refine E.GL.run rfl rfl rfl (E.Runs.fieldAddr rfl rfl hu45 rfl (by assumption) rfl) ?_
                  refine E.GL.run rfl rfl rfl (E.Runs.load rfl rfl hu3 (by first | assumption | exact E.blkc (by assumption) rfl | exact pw_cell_below L (by assumption))) ?_
                  by_cases h57 : inR x.f4 0 x.f5
                  · refine E.GL.st rfl rfl rfl (E.ST.call rfl ent47 (E.evc rfl (E.evc rfl (E.evc rfl E.evn))) ((within_r x.f4 0 x.f5 true (iff_of_true rfl h57) _).mono ?_))
                    rintro e w57 ⟨rfl, l57⟩
                    refine ⟨_, rfl, ?_⟩
                    replace b2 := blk_below b2 l57
                    replace b3 := blk_below b3 l57
                    replace L := below_step L l57
                    refine E.GL.run rfl rfl rfl (E.Runs.pick_t rfl rfl rfl) ?_
                    refine E.GL.run rfl rfl rfl (E.Runs.move rfl rfl) ?_
                    refine E.GL.run rfl rfl rfl (E.Runs.fieldAddr rfl rfl hu45 rfl (by assumption) rfl) ?_
                    refine E.GL.run rfl rfl rfl (E.Runs.load rfl rfl hu3 (by first | assumption | exact E.blkc (by assumption) rfl | exact pw_cell_below L (by assumption))) ?_
                    refine E.GL.run rfl rfl rfl (E.Runs.fieldAddr rfl rfl hu26 rfl (by assumption) rfl) ?_
                    refine E.GL.run rfl rfl rfl (E.Runs.load rfl rfl hu3 (by first | assumption | exact E.blkc (by assumption) rfl | exact pw_cell_below L (by assumption))) ?_
                    refine E.GL.cmp rfl rfl rfl (fun _ h => (E.Runs.lss rfl rfl rfl h)) (fun h64 => ?_) (fun h64 => ?_)
                    · refine E.GL.run rfl rfl rfl (E.Runs.pick_t rfl rfl rfl) ?_
                      refine E.GL.run rfl rfl rfl (E.Runs.move rfl rfl) ?_
                      refine E.GL.run rfl rfl rfl (E.Runs.fieldAddr rfl rfl hu45 rfl (by assumption) rfl) ?_
                      refine E.GL.run rfl rfl rfl (E.Runs.load rfl rfl hu3 (by first | assumption | exact E.blkc (by assumption) rfl | exact pw_cell_below L (by assumption))) ?_
                      by_cases h69 : inR x.f6 0 500
                      · refine E.GL.st rfl rfl rfl (E.ST.call rfl ent47 (E.evc rfl (E.evc rfl (E.evc rfl E.evn))) ((within_r x.f6 0 500 true (iff_of_true rfl h69) _).mono ?_))
                        rintro e w69 ⟨rfl, l69⟩
                        refine ⟨_, rfl, ?_⟩
                        replace b2 := blk_below b2 l69
                        replace b3 := blk_below b3 l69
                        replace L := below_step L l69
                        refine E.GL.run rfl rfl rfl (E.Runs.pick_t rfl rfl rfl) ?_
                        refine E.GL.run rfl rfl rfl (E.Runs.assign rfl rfl) ?_
                        refine E.GL.done ?_
                        refine E.QG.code ?_
                        refine E.CG.ret ?_
                        have hq : DOk V x := by unfold DOk; unfold inR at *; omega
                        exact E.QG.result rfl rfl ⟨by rw [hb.mpr hq] <;> rfl, L⟩
                      · refine E.GL.st rfl rfl rfl (E.ST.call rfl ent47 (E.evc rfl (E.evc rfl (E.evc rfl E.evn))) ((within_r x.f6 0 500 false (iff_of_false Bool.false_ne_true h69) _).mono ?_))
                        rintro e w69 ⟨rfl, l69⟩
                        refine ⟨_, rfl, ?_⟩
                        replace b2 := blk_below b2 l69
                        replace b3 := blk_below b3 l69
                        replace L := below_step L l69
                        refine E.GL.run rfl rfl rfl (E.Runs.pick_t rfl rfl rfl) ?_
                        refine E.GL.run rfl rfl rfl (E.Runs.assign rfl rfl) ?_
                        refine E.GL.done ?_
                        refine E.QG.code ?_
                        refine E.CG.ret ?_
                        have hq : ¬ DOk V x := by unfold DOk; unfold inR at *; omega
                        exact E.QG.result rfl rfl ⟨by rw [bool_no hb hq] <;> rfl, L⟩
                    · refine E.GL.run rfl rfl rfl (E.Runs.pick_t rfl rfl rfl) ?_
                      refine E.GL.run rfl rfl rfl (E.Runs.move rfl rfl) ?_
                      refine E.GL.skip rfl rfl rfl ?_
                      refine E.GL.skip rfl rfl rfl ?_
                      refine E.GL.skip rfl rfl rfl ?_
                      refine E.GL.run rfl rfl rfl (E.Runs.pick_f rfl rfl rfl) ?_
                      refine E.GL.run rfl rfl rfl (E.Runs.assign rfl rfl) ?_
                      refine E.GL.done ?_
                      refine E.QG.code ?_
                      refine E.CG.ret ?_
                      have hq : ¬ DOk V x := by unfold DOk; unfold inR at *; omega
                      exact E.QG.result rfl rfl ⟨by rw [bool_no hb hq] <;> rfl, L⟩
                  · refine E.GL.st rfl rfl rfl (E.ST.call rfl ent47 (E.evc rfl (E.evc rfl (E.evc rfl E.evn))) ((within_r x.f4 0 x.f5 false (iff_of_false Bool.false_ne_true h57) _).mono ?_))
                    rintro e w57 ⟨rfl, l57⟩
                    refine ⟨_, rfl, ?_⟩
                    replace b2 := blk_below b2 l57
                    replace b3 := blk_below b3 l57
                    replace L := below_step L l57
                    refine E.GL.run rfl rfl rfl (E.Runs.pick_t rfl rfl rfl) ?_
                    refine E.GL.run rfl rfl rfl (E.Runs.move rfl rfl) ?_
                    refine E.GL.skip rfl rfl rfl ?_
                    refine E.GL.skip rfl rfl rfl ?_
                    refine E.GL.skip rfl rfl rfl ?_
                    refine E.GL.skip rfl rfl rfl ?_
                    refine E.GL.skip rfl rfl rfl ?_
                    refine E.GL.run rfl rfl rfl (E.Runs.pick_f rfl rfl rfl) ?_
                    refine E.GL.run rfl rfl rfl (E.Runs.move rfl rfl) ?_
                    refine E.GL.skip rfl rfl rfl ?_
                    refine E.GL.skip rfl rfl rfl ?_
                    refine E.GL.skip rfl rfl rfl ?_
                    refine E.GL.run rfl rfl rfl (E.Runs.pick_f rfl rfl rfl) ?_
                    refine E.GL.run rfl rfl rfl (E.Runs.assign rfl rfl) ?_
                    refine E.GL.done ?_
                    refine E.QG.code ?_
                    refine E.CG.ret ?_
                    have hq : ¬ DOk V x := by unfold DOk; unfold inR at *; omega
                    exact E.QG.result rfl rfl ⟨by rw [bool_no hb hq] <;> rfl, L⟩
                · refine E.GL.run rfl rfl rfl (E.Runs.pick_t rfl rfl rfl) ?_
                  refine E.GL.run rfl rfl rfl (E.Runs.move rfl rfl) ?_
                  refine E.GL.skip rfl rfl rfl ?_
                  refine E.GL.skip rfl rfl rfl ?_
                  refine E.GL.skip rfl rfl rfl ?_
                  refine E.GL.skip rfl rfl rfl ?_
                  refine E.GL.skip rfl rfl rfl ?_
                  refine E.GL.run rfl rfl rfl (E.Runs.pick_f rfl rfl rfl) ?_
                  refine E.GL.run rfl rfl rfl (E.Runs.move rfl rfl) ?_
                  refine E.GL.skip rfl rfl rfl ?_
                  refine E.GL.skip rfl rfl rfl ?_
                  refine E.GL.skip rfl rfl rfl ?_
                  refine E.GL.skip rfl rfl rfl ?_
                  refine E.GL.skip rfl rfl rfl ?_
                  refine E.GL.run rfl rfl rfl (E.Runs.pick_f rfl rfl rfl) ?_
                  refine E.GL.run rfl rfl rfl (E.Runs.move rfl rfl) ?_
                  refine E.GL.skip rfl rfl rfl ?_
                  refine E.GL.skip rfl rfl rfl ?_
                  refine E.GL.skip rfl rfl rfl ?_
                  refine E.GL.run rfl rfl rfl (E.Runs.pick_f rfl rfl rfl) ?_
                  refine E.GL.run rfl rfl rfl (E.Runs.assign rfl rfl) ?_
                  refine E.GL.done ?_
                  refine E.QG.code ?_
                  refine E.CG.ret ?_
                  have hq : ¬ DOk V x := by unfold DOk; unfold inR at *; omega
                  exact E.QG.result rfl rfl ⟨by rw [bool_no hb hq] <;> rfl, L⟩
              · refine E.GL.st rfl rfl rfl (E.ST.call rfl ent47 (E.evc rfl (E.evc rfl (E.evc rfl E.evn))) ((within_r x.f2 0 x.f3 false (iff_of_false Bool.false_ne_true h44) _).mono ?_))
                rintro e w44 ⟨rfl, l44⟩
                refine ⟨_, rfl, ?_⟩
                replace b2 := blk_below b2 l44
                replace b3 := blk_below b3 l44
                replace L := below_step L l44
                refine E.GL.run rfl rfl rfl (E.Runs.move rfl rfl) ?_
                refine E.GL.skip rfl rfl rfl ?_
                refine E.GL.skip rfl rfl rfl ?_
                refine E.GL.skip rfl rfl rfl ?_
                refine E.GL.skip rfl rfl rfl ?_
                refine E.GL.skip rfl rfl rfl ?_
                refine E.GL.run rfl rfl rfl (E.Runs.pick_f rfl rfl rfl) ?_
                refine E.GL.run rfl rfl rfl (E.Runs.move rfl rfl) ?_
                refine E.GL.skip rfl rfl rfl ?_
                refine E.GL.skip rfl rfl rfl ?_
                refine E.GL.skip rfl rfl rfl ?_
                refine E.GL.skip rfl rfl rfl ?_
                refine E.GL.skip rfl rfl rfl ?_
                refine E.GL.run rfl rfl rfl (E.Runs.pick_f rfl rfl rfl) ?_
                refine E.GL.run rfl rfl rfl (E.Runs.move rfl rfl) ?_
                refine E.GL.skip rfl rfl rfl ?_
                refine E.GL.skip rfl rfl rfl ?_
                refine E.GL.skip rfl rfl rfl ?_
                refine E.GL.skip rfl rfl rfl ?_
                refine E.GL.skip rfl rfl rfl ?_
                refine E.GL.run rfl rfl rfl (E.Runs.pick_f rfl rfl rfl) ?_
                refine E.GL.run rfl rfl rfl (E.Runs.move rfl rfl) ?_
                refine E.GL.skip rfl rfl rfl ?_
                refine E.GL.skip rfl rfl rfl ?_
                refine E.GL.skip rfl rfl rfl ?_
                refine E.GL.run rfl rfl rfl (E.Runs.pick_f rfl rfl rfl) ?_
                refine E.GL.run rfl rfl rfl (E.Runs.assign rfl rfl) ?_
                refine E.GL.done ?_
                refine E.QG.code ?_
                refine E.CG.ret ?_
                have hq : ¬ DOk V x := by unfold DOk; unfold inR at *; omega
                exact E.QG.result rfl rfl ⟨by rw [bool_no hb hq] <;> rfl, L⟩
          · refine E.GL.run rfl rfl rfl (E.Runs.pick_t rfl rfl rfl) ?_
            refine E.GL.run rfl rfl rfl (E.Runs.move rfl rfl) ?_
            refine E.GL.skip rfl rfl rfl ?_
            refine E.GL.skip rfl rfl rfl ?_
            refine E.GL.skip rfl rfl rfl ?_
            refine E.GL.run rfl rfl rfl (E.Runs.pick_f rfl rfl rfl) ?_
            refine E.GL.run rfl rfl rfl (E.Runs.pick_f rfl rfl rfl) ?_
            refine E.GL.done ?_
            refine E.QG.code ?_
            refine E.CG.cond_f rfl ?_
            refine E.CG.skip ?_
            refine E.QG.code ?_
            refine E.CG.seq ?_
            refine E.CG.list ?_
            refine E.GL.run rfl rfl rfl (E.Runs.fieldAddr rfl rfl hu45 rfl (by assumption) rfl) ?_
            refine E.GL.run rfl rfl rfl (E.Runs.load rfl rfl hu3 (by first | assumption | exact E.blkc (by assumption) rfl | exact pw_cell_below L (by assumption))) ?_
            refine E.GL.run rfl rfl rfl (E.Runs.fieldAddr rfl rfl hu45 rfl (by assumption) rfl) ?_
            refine E.GL.run rfl rfl rfl (E.Runs.load rfl rfl hu3 (by first | assumption | exact E.blkc (by assumption) rfl | exact pw_cell_below L (by assumption))) ?_
            by_cases h44 : inR x.f2 0 x.f3
            · refine E.GL.st rfl rfl rfl (E.ST.call rfl ent47 (E.evc rfl (E.evc rfl (E.evc rfl E.evn))) ((within_r x.f2 0 x.f3 true (iff_of_true rfl h44) _).mono ?_))
              rintro e w44 ⟨rfl, l44⟩
              refine ⟨_, rfl, ?_⟩
              replace b2 := blk_below b2 l44
              replace b3 := blk_below b3 l44
              replace L := below_step L l44
              refine E.GL.run rfl rfl rfl (E.Runs.move rfl rfl) ?_
              refine E.GL.run rfl rfl rfl (E.Runs.fieldAddr rfl rfl hu45 rfl (by assumption) rfl) ?_
              refine E.GL.run rfl rfl rfl (E.Runs.load rfl rfl hu3 (by first | assumption | exact E.blkc (by assumption) rfl | exact pw_cell_below L (by assumption))) ?_
              refine E.GL.run rfl rfl rfl (E.Runs.fieldAddr rfl rfl hu26 rfl (by assumption) rfl) ?_
              refine E.GL.run rfl rfl rfl (E.Runs.load rfl rfl hu3 (by first | assumption | exact E.blkc (by assumption) rfl | exact pw_cell_below L (by assumption))) ?_
              refine E.GL.cmp rfl rfl rfl (fun _ h => (E.Runs.lss rfl rfl rfl h)) (fun h50 => ?_) (fun h50 => ?_)
              · refine E.GL.run rfl rfl rfl (E.Runs.pick_t rfl rfl rfl) ?_
                refine E.GL.run rfl rfl rfl (E.Runs.move rfl rfl) ?_
                refine E.GL.run rfl rfl rfl (E.Runs.fieldAddr rfl rfl hu45 rfl (by assumption) rfl) ?_
                refine E.GL.run rfl rfl rfl (E.Runs.load rfl rfl hu3 (by first | assumption | exact E.blkc (by assumption) rfl | exact pw_cell_below L (by assumption))) ?_
                refine E.GL.run rfl rfl rfl (E.Runs.fieldAddr rfl rfl hu45 rfl (by assumption) rfl) ?_
                refine E.GL.run rfl rfl rfl (E.Runs.load rfl rfl hu3 (by first | assumption | exact E.blkc (by assumption) rfl | exact pw_cell_below L (by assumption))) ?_
                by_cases h57 : inR x.f4 0 x.f5
                · refine E.GL.st rfl rfl rfl (E.ST.call rfl ent47 (E.evc rfl (E.evc rfl (E.evc rfl E.evn))) ((within_r x.f4 0 x.f5 true (iff_of_true rfl h57) _).mono ?_))
                  rintro e w57 ⟨rfl, l57⟩
                  refine ⟨_, rfl, ?_⟩
                  replace b2 := blk_below b2 l57
                  replace b3 := blk_below b3 l57
                  replace L := below_step L l57
                  refine E.GL.run rfl rfl rfl (E.Runs.pick_t rfl rfl rfl) ?_
                  refine E.GL.run rfl rfl rfl (E.Runs.move rfl rfl) ?_
                  refine E.GL.run rfl rfl rfl (E.Runs.fieldAddr rfl rfl hu45 rfl (by assumption) rfl) ?_
                  refine E.GL.run rfl rfl rfl (E.Runs.load rfl rfl hu3 (by first | assumption | exact E.blkc (by assumption) rfl | exact pw_cell_below L (by assumption))) ?_
                  refine E.GL.run rfl rfl rfl (E.Runs.fieldAddr rfl rfl hu26 rfl (by assumption) rfl) ?_
                  refine E.GL.run rfl rfl rfl (E.Runs.load rfl rfl hu3 (by first | assumption | exact E.blkc (by assumption) rfl | exact pw_cell_below L (by assumption))) ?_
                  refine E.GL.cmp rfl rfl rfl (fun _ h => (E.Runs.lss rfl rfl rfl h)) (fun h64 => ?_) (fun h64 => ?_)
                  · refine E.GL.run rfl rfl rfl (E.Runs.pick_t rfl rfl rfl) ?_
                    refine E.GL.run rfl rfl rfl (E.Runs.move rfl rfl) ?_
                    refine E.GL.run rfl rfl rfl (E.Runs.fieldAddr rfl rfl hu45 rfl (by assumption) rfl) ?_
                    refine E.GL.run rfl rfl rfl (E.Runs.load rfl rfl hu3 (by first | assumption | exact E.blkc (by assumption) rfl | exact pw_cell_below L (by assumption))) ?_
                    by_cases h69 : inR x.f6 0 500
                    · refine E.GL.st rfl rfl rfl (E.ST.call rfl ent47 (E.evc rfl (E.evc rfl (E.evc rfl E.evn))) ((within_r x.f6 0 500 true (iff_of_true rfl h69) _).mono ?_))
                      rintro e w69 ⟨rfl, l69⟩
                      refine ⟨_, rfl, ?_⟩
                      replace b2 := blk_below b2 l69
                      replace b3 := blk_below b3 l69
                      replace L := below_step L l69
                      refine E.GL.run rfl rfl rfl (E.Runs.pick_t rfl rfl rfl) ?_
                      refine E.GL.run rfl rfl rfl (E.Runs.assign rfl rfl) ?_
                      refine E.GL.done ?_
                      refine E.QG.code ?_
                      refine E.CG.ret ?_
                      have hq : DOk V x := by unfold DOk; unfold inR at *; omega
                      exact E.QG.result rfl rfl ⟨by rw [hb.mpr hq] <;> rfl, L⟩
                    · refine E.GL.st rfl rfl rfl (E.ST.call rfl ent47 (E.evc rfl (E.evc rfl (E.evc rfl E.evn))) ((within_r x.f6 0 500 false (iff_of_false Bool.false_ne_true h69) _).mono ?_))
                      rintro e w69 ⟨rfl, l69⟩
                      refine ⟨_, rfl, ?_⟩
                      replace b2 := blk_below b2 l69
                      replace b3 := blk_below b3 l69
                      replace L := below_step L l69
                      refine E.GL.run rfl rfl rfl (E.Runs.pick_t rfl rfl rfl) ?_
                      refine E.GL.run rfl rfl rfl (E.Runs.assign rfl rfl) ?_
                      refine E.GL.done ?_
                      refine E.QG.code ?_
                      refine E.CG.ret ?_
                      have hq : ¬ DOk V x := by unfold DOk; unfold inR at *; omega
                      exact E.QG.result rfl rfl ⟨by rw [bool_no hb hq] <;> rfl, L⟩
                  · refine E.GL.run rfl rfl rfl (E.Runs.pick_t rfl rfl rfl) ?_
                    refine E.GL.run rfl rfl rfl (E.Runs.move rfl rfl) ?_
                    refine E.GL.skip rfl rfl rfl ?_
                    refine E.GL.skip rfl rfl rfl ?_
                    refine E.GL.skip rfl rfl rfl ?_
                    refine E.GL.run rfl rfl rfl (E.Runs.pick_f rfl rfl rfl) ?_
                    refine E.GL.run rfl rfl rfl (E.Runs.assign rfl rfl) ?_
                    refine E.GL.done ?_
                    refine E.QG.code ?_
                    refine E.CG.ret ?_
                    have hq : ¬ DOk V x := by unfold DOk; unfold inR at *; omega
                    exact E.QG.result rfl rfl ⟨by rw [bool_no hb hq] <;> rfl, L⟩
                · refine E.GL.st rfl rfl rfl (E.ST.call rfl ent47 (E.evc rfl (E.evc rfl (E.evc rfl E.evn))) ((within_r x.f4 0 x.f5 false (iff_of_false Bool.false_ne_true h57) _).mono ?_))
                  rintro e w57 ⟨rfl, l57⟩
                  refine ⟨_, rfl, ?_⟩
                  replace b2 := blk_below b2 l57
                  replace b3 := blk_below b3 l57
                  replace L := below_step L l57
                  refine E.GL.run rfl rfl rfl (E.Runs.pick_t rfl rfl rfl) ?_
                  refine E.GL.run rfl rfl rfl (E.Runs.move rfl rfl) ?_
                  refine E.GL.skip rfl rfl rfl ?_
                  refine E.GL.skip rfl rfl rfl ?_
                  refine E.GL.skip rfl rfl rfl ?_
                  refine E.GL.skip rfl rfl rfl ?_
                  refine E.GL.skip rfl rfl rfl ?_
                  refine E.GL.run rfl rfl rfl (E.Runs.pick_f rfl rfl rfl) ?_
                  refine E.GL.run rfl rfl rfl (E.Runs.move rfl rfl) ?_
                  refine E.GL.skip rfl rfl rfl ?_
                  refine E.GL.skip rfl rfl rfl ?_
                  refine E.GL.skip rfl rfl rfl ?_
                  refine E.GL.run rfl rfl rfl (E.Runs.pick_f rfl rfl rfl) ?_
                  refine E.GL.run rfl rfl rfl (E.Runs.assign rfl rfl) ?_
                  refine E.GL.done ?_
                  refine E.QG.code ?_
                  refine E.CG.ret ?_
                  have hq : ¬ DOk V x := by unfold DOk; unfold inR at *; omega
                  exact E.QG.result rfl rfl ⟨by rw [bool_no hb hq] <;> rfl, L⟩
              · refine E.GL.run rfl rfl rfl (E.Runs.pick_t rfl rfl rfl) ?_
                refine E.GL.run rfl rfl rfl (E.Runs.move rfl rfl) ?_
                refine E.GL.skip rfl rfl rfl ?_
                refine E.GL.skip rfl rfl rfl ?_
                refine E.GL.skip rfl rfl rfl ?_
                refine E.GL.skip rfl rfl rfl ?_
                refine E.GL.skip rfl rfl rfl ?_
                refine E.GL.run rfl rfl rfl (E.Runs.pick_f rfl rfl rfl) ?_
                refine E.GL.run rfl rfl rfl (E.Runs.move rfl rfl) ?_
                refine E.GL.skip rfl rfl rfl ?_
                refine E.GL.skip rfl rfl rfl ?_
                refine E.GL.skip rfl rfl rfl ?_
                refine E.GL.skip rfl rfl rfl ?_
                refine E.GL.skip rfl rfl rfl ?_
                refine E.GL.run rfl rfl rfl (E.Runs.pick_f rfl rfl rfl) ?_
                refine E.GL.run rfl rfl rfl (E.Runs.move rfl rfl) ?_
                refine E.GL.skip rfl rfl rfl ?_
                refine E.GL.skip rfl rfl rfl ?_
                refine E.GL.skip rfl rfl rfl ?_
                refine E.GL.run rfl rfl rfl (E.Runs.pick_f rfl rfl rfl) ?_
                refine E.GL.run rfl rfl rfl (E.Runs.assign rfl rfl) ?_
                refine E.GL.done ?_
                refine E.QG.code ?_
                refine E.CG.ret ?_
                have hq : ¬ DOk V x := by unfold DOk; unfold inR at *; omega
                exact E.QG.result rfl rfl ⟨by rw [bool_no hb hq] <;> rfl, L⟩
            · refine E.GL.st rfl rfl rfl (E.ST.call rfl ent47 (E.evc rfl (E.evc rfl (E.evc rfl E.evn))) ((within_r x.f2 0 x.f3 false (iff_of_false Bool.false_ne_true h44) _).mono ?_))
              rintro e w44 ⟨rfl, l44⟩
              refine ⟨_, rfl, ?_⟩
              replace b2 := blk_below b2 l44
              replace b3 := blk_below b3 l44
              replace L := below_step L l44
              refine E.GL.run rfl rfl rfl (E.Runs.move rfl rfl) ?_
              refine E.GL.skip rfl rfl rfl ?_
              refine E.GL.skip rfl rfl rfl ?_
              refine E.GL.skip rfl rfl rfl ?_
              refine E.GL.skip rfl rfl rfl ?_
              refine E.GL.skip rfl rfl rfl ?_
              refine E.GL.run rfl rfl rfl (E.Runs.pick_f rfl rfl rfl) ?_
              refine E.GL.run rfl rfl rfl (E.Runs.move rfl rfl) ?_
              refine E.GL.skip rfl rfl rfl ?_
              refine E.GL.skip rfl rfl rfl ?_
              refine E.GL.skip rfl rfl rfl ?_
              refine E.GL.skip rfl rfl rfl ?_
              refine E.GL.skip rfl rfl rfl ?_
              refine E.GL.run rfl rfl rfl (E.Runs.pick_f rfl rfl rfl) ?_
              refine E.GL.run rfl rfl rfl (E.Runs.move rfl rfl) ?_
              refine E.GL.skip rfl rfl rfl ?_
              refine E.GL.skip rfl rfl rfl ?_
              refine E.GL.skip rfl rfl rfl ?_
              refine E.GL.skip rfl rfl rfl ?_
              refine E.GL.skip rfl rfl rfl ?_
              refine E.GL.run rfl rfl rfl (E.Runs.pick_f rfl rfl rfl) ?_
              refine E.GL.run rfl rfl rfl (E.Runs.move rfl rfl) ?_
              refine E.GL.skip rfl rfl rfl ?_
              refine E.GL.skip rfl rfl rfl ?_
              refine E.GL.skip rfl rfl rfl ?_
              refine E.GL.run rfl rfl rfl (E.Runs.pick_f rfl rfl rfl) ?_
              refine E.GL.run rfl rfl rfl (E.Runs.assign rfl rfl) ?_
              refine E.GL.done ?_
              refine E.QG.code ?_
              refine E.CG.ret ?_
              have hq : ¬ DOk V x := by unfold DOk; unfold inR at *; omega
              exact E.QG.result rfl rfl ⟨by rw [bool_no hb hq] <;> rfl, L⟩
        · refine E.GL.run rfl rfl rfl (E.Runs.move rfl rfl) ?_
          refine E.GL.skip rfl rfl rfl ?_
          refine E.GL.skip rfl rfl rfl ?_
          refine E.GL.skip rfl rfl rfl ?_
          refine E.GL.run rfl rfl rfl (E.Runs.pick_f rfl rfl rfl) ?_
          refine E.GL.run rfl rfl rfl (E.Runs.move rfl rfl) ?_
          refine E.GL.skip rfl rfl rfl ?_
          refine E.GL.skip rfl rfl rfl ?_
          refine E.GL.skip rfl rfl rfl ?_
          refine E.GL.run rfl rfl rfl (E.Runs.pick_f rfl rfl rfl) ?_
          refine E.GL.run rfl rfl rfl (E.Runs.pick_f rfl rfl rfl) ?_
          refine E.GL.done ?_
          refine E.QG.code ?_
          refine E.CG.cond_f rfl ?_
          refine E.CG.skip ?_
          refine E.QG.code ?_
          refine E.CG.seq ?_
          refine E.CG.list ?_
          refine E.GL.run rfl rfl rfl (E.Runs.fieldAddr rfl rfl hu45 rfl (by assumption) rfl) ?_
          refine E.GL.run rfl rfl rfl (E.Runs.load rfl rfl hu3 (by first | assumption | exact E.blkc (by assumption) rfl | exact pw_cell_below L (by assumption))) ?_
          refine E.GL.run rfl rfl rfl (E.Runs.fieldAddr rfl rfl hu45 rfl (by assumption) rfl) ?_
          refine E.GL.run rfl rfl rfl (E.Runs.load rfl rfl hu3 (by first | assumption | exact E.blkc (by assumption) rfl | exact pw_cell_below L (by assumption))) ?_
          by_cases h44 : inR x.f2 0 x.f3
          · refine E.GL.st rfl rfl rfl (E.ST.call rfl ent47 (E.evc rfl (E.evc rfl (E.evc rfl E.evn))) ((within_r x.f2 0 x.f3 true (iff_of_true rfl h44) _).mono ?_))
            rintro e w44 ⟨rfl, l44⟩
            refine ⟨_, rfl, ?_⟩
            replace b2 := blk_below b2 l44
            replace b3 := blk_below b3 l44
            replace L := below_step L l44
            refine E.GL.run rfl rfl rfl (E.Runs.move rfl rfl) ?_
            refine E.GL.run rfl rfl rfl (E.Runs.fieldAddr rfl rfl hu45 rfl (by assumption) rfl) ?_
            refine E.GL.run rfl rfl rfl (E.Runs.load rfl rfl hu3 (by first | assumption | exact E.blkc (by assumption) rfl | exact pw_cell_below L (by assumption))) ?_
            refine E.GL.run rfl rfl rfl (E.Runs.fieldAddr rfl rfl hu26 rfl (by assumption) rfl) ?_
            refine E.GL.run rfl rfl rfl (E.Runs.load rfl rfl hu3 (by first | assumption | exact E.blkc (by assumption) rfl | exact pw_cell_below L (by assumption))) ?_
            refine E.GL.cmp rfl rfl rfl (fun _ h => (E.Runs.lss rfl rfl rfl h)) (fun h50 => ?_) (fun h50 => ?_)
            · refine E.GL.run rfl rfl rfl (E.Runs.pick_t rfl rfl rfl) ?_
              refine E.GL.run rfl rfl rfl (E.Runs.move rfl rfl) ?_
              refine E.GL.run rfl rfl rfl (E.Runs.fieldAddr rfl rfl hu45 rfl (by assumption) rfl) ?_
              refine E.GL.run rfl rfl rfl (E.Runs.load rfl rfl hu3 (by first | assumption | exact E.blkc (by assumption) rfl | exact pw_cell_below L (by assumption))) ?_
              refine E.GL.run rfl rfl rfl (E.Runs.fieldAddr rfl rfl hu45 rfl (by assumption) rfl) ?_
              refine E.GL.run rfl rfl rfl (E.Runs.load rfl rfl hu3 (by first | assumption | exact E.blkc (by assumption) rfl | exact pw_cell_below L (by assumption))) ?_
              by_cases h57 : inR x.f4 0 x.f5
              · refine E.GL.st rfl rfl rfl (E.ST.call rfl ent47 (E.evc rfl (E.evc rfl (E.evc rfl E.evn))) ((within_r x.f4 0 x.f5 true (iff_of_true rfl h57) _).mono ?_))
                rintro e w57 ⟨rfl, l57⟩
                refine ⟨_, rfl, ?_⟩
                replace b2 := blk_below b2 l57
                replace b3 := blk_below b3 l57
                replace L := below_step L l57
                refine E.GL.run rfl rfl rfl (E.Runs.pick_t rfl rfl rfl) ?_
                refine E.GL.run rfl rfl rfl (E.Runs.move rfl rfl) ?_
                refine E.GL.run rfl rfl rfl (E.Runs.fieldAddr rfl rfl hu45 rfl (by assumption) rfl) ?_
                refine E.GL.run rfl rfl rfl (E.Runs.load rfl rfl hu3 (by first | assumption | exact E.blkc (by assumption) rfl | exact pw_cell_below L (by assumption))) ?_
                refine E.GL.run rfl rfl rfl (E.Runs.fieldAddr rfl rfl hu26 rfl (by assumption) rfl) ?_
                refine E.GL.run rfl rfl rfl (E.Runs.load rfl rfl hu3 (by first | assumption | exact E.blkc (by assumption) rfl | exact pw_cell_below L (by assumption))) ?_
                refine E.GL.cmp rfl rfl rfl (fun _ h => (E.Runs.lss rfl rfl rfl h)) (fun h64 => ?_) (fun h64 => ?_)
                · refine E.GL.run rfl rfl rfl (E.Runs.pick_t rfl rfl rfl) ?_
                  refine E.GL.run rfl rfl rfl (E.Runs.move rfl rfl) ?_
                  refine E.GL.run rfl rfl rfl (E.Runs.fieldAddr rfl rfl hu45 rfl (by assumption) rfl) ?_
                  refine E.GL.run rfl rfl rfl (E.Runs.load rfl rfl hu3 (by first | assumption | exact E.blkc (by assumption) rfl | exact pw_cell_below L (by assumption))) ?_
                  by_cases h69 : inR x.f6 0 500
                  · refine E.GL.st rfl rfl rfl (E.ST.call rfl ent47 (E.evc rfl (E.evc rfl (E.evc rfl E.evn))) ((within_r x.f6 0 500 true (iff_of_true rfl h69) _).mono ?_))
                    rintro e w69 ⟨rfl, l69⟩
                    refine ⟨_, rfl, ?_⟩
                    replace b2 := blk_below b2 l69
                    replace b3 := blk_below b3 l69
                    replace L := below_step L l69
                    refine E.GL.run rfl rfl rfl (E.Runs.pick_t rfl rfl rfl) ?_
                    refine E.GL.run rfl rfl rfl (E.Runs.assign rfl rfl) ?_
                    refine E.GL.done ?_
                    refine E.QG.code ?_
                    refine E.CG.ret ?_
                    have hq : DOk V x := by unfold DOk; unfold inR at *; omega
                    exact E.QG.result rfl rfl ⟨by rw [hb.mpr hq] <;> rfl, L⟩
                  · refine E.GL.st rfl rfl rfl (E.ST.call rfl ent47 (E.evc rfl (E.evc rfl (E.evc rfl E.evn))) ((within_r x.f6 0 500 false (iff_of_false Bool.false_ne_true h69) _).mono ?_))
                    rintro e w69 ⟨rfl, l69⟩
                    refine ⟨_, rfl, ?_⟩
                    replace b2 := blk_below b2 l69
                    replace b3 := blk_below b3 l69
                    replace L := below_step L l69
                    refine E.GL.run rfl rfl rfl (E.Runs.pick_t rfl rfl rfl) ?_
                    refine E.GL.run rfl rfl rfl (E.Runs.assign rfl rfl) ?_
                    refine E.GL.done ?_
                    refine E.QG.code ?_
                    refine E.CG.ret ?_
                    have hq : ¬ DOk V x := by unfold DOk; unfold inR at *; omega
                    exact E.QG.result rfl rfl ⟨by rw [bool_no hb hq] <;> rfl, L⟩
                · refine E.GL.run rfl rfl rfl (E.Runs.pick_t rfl rfl rfl) ?_
                  refine E.GL.run rfl rfl rfl (E.Runs.move rfl rfl) ?_
                  refine E.GL.skip rfl rfl rfl ?_
                  refine E.GL.skip rfl rfl rfl ?_
                  refine E.GL.skip rfl rfl rfl ?_
                  refine E.GL.run rfl rfl rfl (E.Runs.pick_f rfl rfl rfl) ?_
                  refine E.GL.run rfl rfl rfl (E.Runs.assign rfl rfl) ?_
                  refine E.GL.done ?_
                  refine E.QG.code ?_
                  refine E.CG.ret ?_
                  have hq : ¬ DOk V x := by unfold DOk; unfold inR at *; omega
                  exact E.QG.result rfl rfl ⟨by rw [bool_no hb hq] <;> rfl, L⟩
              · refine E.GL.st rfl rfl rfl (E.ST.call rfl ent47 (E.evc rfl (E.evc rfl (E.evc rfl E.evn))) ((within_r x.f4 0 x.f5 false (iff_of_false Bool.false_ne_true h57) _).mono ?_))
                rintro e w57 ⟨rfl, l57⟩
                refine ⟨_, rfl, ?_⟩
                replace b2 := blk_below b2 l57
                replace b3 := blk_below b3 l57
                replace L := below_step L l57
                refine E.GL.run rfl rfl rfl (E.Runs.pick_t rfl rfl rfl) ?_
                refine E.GL.run rfl rfl rfl (E.Runs.move rfl rfl) ?_
                refine E.GL.skip rfl rfl rfl ?_
                refine E.GL.skip rfl rfl rfl ?_
                refine E.GL.skip rfl rfl rfl ?_
                refine E.GL.skip rfl rfl rfl ?_
                refine E.GL.skip rfl rfl rfl ?_
                refine E.GL.run rfl rfl rfl (E.Runs.pick_f rfl rfl rfl) ?_
                refine E.GL.run rfl rfl rfl (E.Runs.move rfl rfl) ?_
                refine E.GL.skip rfl rfl rfl ?_
                refine E.GL.skip rfl rfl rfl ?_
                refine E.GL.skip rfl rfl rfl ?_
                refine E.GL.run rfl rfl rfl (E.Runs.pick_f rfl rfl rfl) ?_
                refine E.GL.run rfl rfl rfl (E.Runs.assign rfl rfl) ?_
                refine E.GL.done ?_
                refine E.QG.code ?_
                refine E.CG.ret ?_
                have hq : ¬ DOk V x := by unfold DOk; unfold inR at *; omega
                exact E.QG.result rfl rfl ⟨by rw [bool_no hb hq] <;> rfl, L⟩
            · refine E.GL.run rfl rfl rfl (E.Runs.pick_t rfl rfl rfl) ?_
              refine E.GL.run rfl rfl rfl (E.Runs.move rfl rfl) ?_
              refine E.GL.skip rfl rfl rfl ?_
              refine E.GL.skip rfl rfl rfl ?_
              refine E.GL.skip rfl rfl rfl ?_
              refine E.GL.skip rfl rfl rfl ?_
              refine E.GL.skip rfl rfl rfl ?_
              refine E.GL.run rfl rfl rfl (E.Runs.pick_f rfl rfl rfl) ?_
              refine E.GL.run rfl rfl rfl (E.Runs.move rfl rfl) ?_
              refine E.GL.skip rfl rfl rfl ?_
              refine E.GL.skip rfl rfl rfl ?_
              refine E.GL.skip rfl rfl rfl ?_
              refine E.GL.skip rfl rfl rfl ?_
              refine E.GL.skip rfl rfl rfl ?_
              refine E.GL.run rfl rfl rfl (E.Runs.pick_f rfl rfl rfl) ?_
              refine E.GL.run rfl rfl rfl (E.Runs.move rfl rfl) ?_
              refine E.GL.skip rfl rfl rfl ?_
              refine E.GL.skip rfl rfl rfl ?_
              refine E.GL.skip rfl rfl rfl ?_
              refine E.GL.run rfl rfl rfl (E.Runs.pick_f rfl rfl rfl) ?_
              refine E.GL.run rfl rfl rfl (E.Runs.assign rfl rfl) ?_
              refine E.GL.done ?_
              refine E.QG.code ?_
              refine E.CG.ret ?_
              have hq : ¬ DOk V x := by unfold DOk; unfold inR at *; omega
              exact E.QG.result rfl rfl ⟨by rw [bool_no hb hq] <;> rfl, L⟩
          · refine E.GL.st rfl rfl rfl (E.ST.call rfl ent47 (E.evc rfl (E.evc rfl (E.evc rfl E.evn))) ((within_r x.f2 0 x.f3 false (iff_of_false Bool.false_ne_true h44) _).mono ?_))
            rintro e w44 ⟨rfl, l44⟩
            refine ⟨_, rfl, ?_⟩
            replace b2 := blk_below b2 l44
            replace b3 := blk_below b3 l44
            replace L := below_step L l44
            refine E.GL.run rfl rfl rfl (E.Runs.move rfl rfl) ?_
            refine E.GL.skip rfl rfl rfl ?_
            refine E.GL.skip rfl rfl rfl ?_
            refine E.GL.skip rfl rfl rfl ?_
            refine E.GL.skip rfl rfl rfl ?_
            refine E.GL.skip rfl rfl rfl ?_
            refine E.GL.run rfl rfl rfl (E.Runs.pick_f rfl rfl rfl) ?_
            refine E.GL.run rfl rfl rfl (E.Runs.move rfl rfl) ?_
            refine E.GL.skip rfl rfl rfl ?_
            refine E.GL.skip rfl rfl rfl ?_
            refine E.GL.skip rfl rfl rfl ?_
            refine E.GL.skip rfl rfl rfl ?_
            refine E.GL.skip rfl rfl rfl ?_
            refine E.GL.run rfl rfl rfl (E.Runs.pick_f rfl rfl rfl) ?_
            refine E.GL.run rfl rfl rfl (E.Runs.move rfl rfl) ?_
            refine E.GL.skip rfl rfl rfl ?_
            refine E.GL.skip rfl rfl rfl ?_
            refine E.GL.skip rfl rfl rfl ?_
            refine E.GL.skip rfl rfl rfl ?_
            refine E.GL.skip rfl rfl rfl ?_
            refine E.GL.run rfl rfl rfl (E.Runs.pick_f rfl rfl rfl) ?_
            refine E.GL.run rfl rfl rfl (E.Runs.move rfl rfl) ?_
            refine E.GL.skip rfl rfl rfl ?_
            refine E.GL.skip rfl rfl rfl ?_
            refine E.GL.skip rfl rfl rfl ?_
            refine E.GL.run rfl rfl rfl (E.Runs.pick_f rfl rfl rfl) ?_
            refine E.GL.run rfl rfl rfl (E.Runs.assign rfl rfl) ?_
            refine E.GL.done ?_
            refine E.QG.code ?_
            refine E.CG.ret ?_
            have hq : ¬ DOk V x := by unfold DOk; unfold inR at *; omega
            exact E.QG.result rfl rfl ⟨by rw [bool_no hb hq] <;> rfl, L⟩
      · refine E.GL.st rfl rfl rfl (E.ST.call rfl ent47 (E.evc rfl (E.evc rfl (E.evc rfl E.evn))) ((within_r x.f7 0 8 false (iff_of_false Bool.false_ne_true h22) _).mono ?_))
        rintro e w22 ⟨rfl, l22⟩
        refine ⟨_, rfl, ?_⟩
        replace b2 := blk_below b2 l22
        replace b3 := blk_below b3 l22
        replace L := below_step L l22
        refine E.GL.run rfl rfl rfl (E.Runs.not rfl rfl) ?_
        refine E.GL.run rfl rfl rfl (E.Runs.pick_f rfl rfl rfl) ?_
        refine E.GL.run rfl rfl rfl (E.Runs.move rfl rfl) ?_
        refine E.GL.skip rfl rfl rfl ?_
        refine E.GL.skip rfl rfl rfl ?_
        refine E.GL.skip rfl rfl rfl ?_
        refine E.GL.skip rfl rfl rfl ?_
        refine E.GL.skip rfl rfl rfl ?_
        refine E.GL.skip rfl rfl rfl ?_
        refine E.GL.skip rfl rfl rfl ?_
        refine E.GL.skip rfl rfl rfl ?_
        refine E.GL.skip rfl rfl rfl ?_
        refine E.GL.skip rfl rfl rfl ?_
        refine E.GL.skip rfl rfl rfl ?_
        refine E.GL.skip rfl rfl rfl ?_
        refine E.GL.skip rfl rfl rfl ?_
        refine E.GL.run rfl rfl rfl (E.Runs.pick_t rfl rfl rfl) ?_
        refine E.GL.done ?_
        refine E.QG.code ?_
        refine E.CG.cond_t rfl ?_
        refine E.CG.seq ?_
        refine E.CG.list ?_
        refine E.GL.run rfl rfl rfl (E.Runs.assign rfl rfl) ?_
        refine E.GL.done ?_
        refine E.QG.code ?_
        refine E.CG.ret ?_
        refine E.QG.pass_ret ?_
        have hq : ¬ DOk V x := by unfold DOk; unfold inR at *; omega
        exact E.QG.result rfl rfl ⟨by rw [bool_no hb hq] <;> rfl, L⟩
    · refine E.GL.st rfl rfl rfl (E.ST.call rfl ent47 (E.evc rfl (E.evc rfl (E.evc rfl E.evn))) ((within_r x.f1 0 (V.fs.length - 1) false (iff_of_false Bool.false_ne_true h16) _).mono ?_))
      rintro e w16 ⟨rfl, l16⟩
      refine ⟨_, rfl, ?_⟩
      replace b2 := blk_below b2 l16
      replace b3 := blk_below b3 l16
      replace L := below_step L l16
      refine E.GL.run rfl rfl rfl (E.Runs.not rfl rfl) ?_
      refine E.GL.run rfl rfl rfl (E.Runs.pick_f rfl rfl rfl) ?_
      refine E.GL.run rfl rfl rfl (E.Runs.move rfl rfl) ?_
      refine E.GL.skip rfl rfl rfl ?_
      refine E.GL.skip rfl rfl rfl ?_
      refine E.GL.skip rfl rfl rfl ?_
      refine E.GL.skip rfl rfl rfl ?_
      refine E.GL.run rfl rfl rfl (E.Runs.pick_t rfl rfl rfl) ?_
      refine E.GL.run rfl rfl rfl (E.Runs.move rfl rfl) ?_
      refine E.GL.skip rfl rfl rfl ?_
      refine E.GL.skip rfl rfl rfl ?_
      refine E.GL.skip rfl rfl rfl ?_
      refine E.GL.skip rfl rfl rfl ?_
      refine E.GL.skip rfl rfl rfl ?_
      refine E.GL.skip rfl rfl rfl ?_
      refine E.GL.skip rfl rfl rfl ?_
      refine E.GL.skip rfl rfl rfl ?_
      refine E.GL.skip rfl rfl rfl ?_
      refine E.GL.skip rfl rfl rfl ?_
      refine E.GL.skip rfl rfl rfl ?_
      refine E.GL.skip rfl rfl rfl ?_
      refine E.GL.skip rfl rfl rfl ?_
      refine E.GL.run rfl rfl rfl (E.Runs.pick_t rfl rfl rfl) ?_
      refine E.GL.done ?_
      refine E.QG.code ?_
      refine E.CG.cond_t rfl ?_
      refine E.CG.seq ?_
      refine E.CG.list ?_
      refine E.GL.run rfl rfl rfl (E.Runs.assign rfl rfl) ?_
      refine E.GL.done ?_
      refine E.QG.code ?_
      refine E.CG.ret ?_
      refine E.QG.pass_ret ?_
      have hq : ¬ DOk V x := by unfold DOk; unfold inR at *; omega
      exact E.QG.result rfl rfl ⟨by rw [bool_no hb hq] <;> rfl, L⟩
  · refine E.GL.st rfl rfl rfl (E.ST.call rfl ent47 (E.evc rfl (E.evc rfl (E.evc rfl E.evn))) ((within_r x.f0 1 5 false (iff_of_false Bool.false_ne_true h7) _).mono ?_))
    rintro e w7 ⟨rfl, l7⟩
    refine ⟨_, rfl, ?_⟩
    replace b2 := blk_below b2 l7
    replace b3 := blk_below b3 l7
    replace L := below_step L l7
    refine E.GL.run rfl rfl rfl (E.Runs.not rfl rfl) ?_
    refine E.GL.run rfl rfl rfl (E.Runs.move rfl rfl) ?_
    refine E.GL.skip rfl rfl rfl ?_
    refine E.GL.skip rfl rfl rfl ?_
    refine E.GL.skip rfl rfl rfl ?_
    refine E.GL.skip rfl rfl rfl ?_
    refine E.GL.skip rfl rfl rfl ?_
    refine E.GL.skip rfl rfl rfl ?_
    refine E.GL.skip rfl rfl rfl ?_
    refine E.GL.skip rfl rfl rfl ?_
    refine E.GL.run rfl rfl rfl (E.Runs.pick_t rfl rfl rfl) ?_
    refine E.GL.run rfl rfl rfl (E.Runs.move rfl rfl) ?_
    refine E.GL.skip rfl rfl rfl ?_
    refine E.GL.skip rfl rfl rfl ?_
    refine E.GL.skip rfl rfl rfl ?_
    refine E.GL.skip rfl rfl rfl ?_
    refine E.GL.run rfl rfl rfl (E.Runs.pick_t rfl rfl rfl) ?_
    refine E.GL.run rfl rfl rfl (E.Runs.move rfl rfl) ?_
    refine E.GL.skip rfl rfl rfl ?_
    refine E.GL.skip rfl rfl rfl ?_
    refine E.GL.skip rfl rfl rfl ?_
    refine E.GL.skip rfl rfl rfl ?_
    refine E.GL.skip rfl rfl rfl ?_
    refine E.GL.skip rfl rfl rfl ?_
    refine E.GL.skip rfl rfl rfl ?_
    refine E.GL.skip rfl rfl rfl ?_
    refine E.GL.skip rfl rfl rfl ?_
    refine E.GL.skip rfl rfl rfl ?_
    refine E.GL.skip rfl rfl rfl ?_
    refine E.GL.skip rfl rfl rfl ?_
    refine E.GL.skip rfl rfl rfl ?_
    refine E.GL.run rfl rfl rfl (E.Runs.pick_t rfl rfl rfl) ?_
    refine E.GL.done ?_
    refine E.QG.code ?_
    refine E.CG.cond_t rfl ?_
    refine E.CG.seq ?_
    refine E.CG.list ?_
    refine E.GL.run rfl rfl rfl (E.Runs.assign rfl rfl) ?_
    refine E.GL.done ?_
    refine E.QG.code ?_
    refine E.CG.ret ?_
    refine E.QG.pass_ret ?_
    have hq : ¬ DOk V x := by unfold DOk; unfold inR at *; omega
    exact E.QG.result rfl rfl ⟨by rw [bool_no hb hq] <;> rfl, L⟩

set_option maxRecDepth 100000 in
set_option maxHeartbeats 8000000 in

theorem check_r (V : Wk) (m : Wa) (w : World) (hV : WM w V m) (hs : Sz V) :
    Calls Try.prog 27 #[wv V m] w fun e w' => e = .returned (.int .i64 (chk V)) ∧ Below w.heap.size w w' := by
  have hsr := hs.r
  have hsf := hs.f
  have hsd := hs.d
  have hu3 := Try.underlying3
  have hu22 := Try.underlying22
  have hu23 := Try.underlying23
  have hu24 := Try.underlying24
  have hu26 := Try.underlying26
  have hu45 := Try.underlying45
  have hu49 := Try.underlying49
  obtain ⟨z3, o3⟩ := info_some info3s (by decide)
  obtain ⟨z22, o22⟩ := info_some info22s (by decide)
  obtain ⟨z23, o23⟩ := info_some info23s (by decide)
  obtain ⟨z24, o24⟩ := info_some info24s (by decide)
  obtain ⟨z26, o26⟩ := info_some info26s (by decide)
  obtain ⟨z45, o45⟩ := info_some info45s (by decide)
  obtain ⟨z49, o49⟩ := info_some info49s (by decide)
  refine E.enter (N := 85) Try.func27 rfl Try.ntmps27 (args := [wv V m]) (by simp) ?_
  have L := Below.refl w.heap.size w
  refine E.CG.seq ?_
  refine E.CG.list ?_
  refine E.GL.st rfl rfl rfl (E.ST.box rfl rfl fun g1 w1 e1 b1 l1 => ?_)
  have h1_L : w.heap.size ≤ g1 := by rw [e1]; exact L.size
  replace L := below_step L l1
  refine E.GL.run rfl rfl rfl (E.Runs.assign rfl rfl) ?_
  refine E.GL.done ?_
  refine E.QG.code ?_
  refine E.CG.seq ?_
  refine E.CG.seq ?_
  refine E.CG.list ?_
  refine E.GL.run rfl rfl rfl (E.Runs.fieldAddr rfl rfl hu26 rfl (by assumption) rfl) ?_
  refine E.GL.run rfl rfl rfl (E.Runs.load rfl rfl hu3 (by first | assumption | exact E.blkc (by assumption) rfl | exact pw_cell_below L (by assumption))) ?_
  by_cases h8 : inR V.d 1 7
  · refine E.GL.st rfl rfl rfl (E.ST.call rfl ent47 (E.evc rfl (E.evc rfl (E.evc rfl E.evn))) ((within_r V.d 1 7 true (iff_of_true rfl h8) _).mono ?_))
    rintro e w8 ⟨rfl, l8⟩
    refine ⟨_, rfl, ?_⟩
    replace b1 := blk_below b1 l8
    replace L := below_step L l8
    refine E.GL.run rfl rfl rfl (E.Runs.not rfl rfl) ?_
    refine E.GL.run rfl rfl rfl (E.Runs.move rfl rfl) ?_
    refine E.GL.run rfl rfl rfl (E.Runs.fieldAddr rfl rfl hu26 rfl (by assumption) rfl) ?_
    refine E.GL.run rfl rfl rfl (E.Runs.load1 rfl rfl hu22 rfl (by first | assumption | exact E.blkc (by assumption) rfl | exact pw_cell_below L (by assumption))) ?_
    refine E.GL.run rfl rfl rfl (E.Runs.len rfl rfl hu22) ?_
    by_cases h14 : inR V.rs.length 1 4
    · refine E.GL.st rfl rfl rfl (E.ST.call rfl ent47 (E.evc rfl (E.evc rfl (E.evc rfl E.evn))) ((within_r V.rs.length 1 4 true (iff_of_true rfl h14) _).mono ?_))
      rintro e w14 ⟨rfl, l14⟩
      refine ⟨_, rfl, ?_⟩
      replace b1 := blk_below b1 l14
      replace L := below_step L l14
      refine E.GL.run rfl rfl rfl (E.Runs.not rfl rfl) ?_
      refine E.GL.run rfl rfl rfl (E.Runs.pick_f rfl rfl rfl) ?_
      refine E.GL.run rfl rfl rfl (E.Runs.move rfl rfl) ?_
      refine E.GL.run rfl rfl rfl (E.Runs.fieldAddr rfl rfl hu26 rfl (by assumption) rfl) ?_
      refine E.GL.run rfl rfl rfl (E.Runs.load rfl rfl hu3 (by first | assumption | exact E.blkc (by assumption) rfl | exact pw_cell_below L (by assumption))) ?_
      by_cases h20 : inR V.h 1 4
      · refine E.GL.st rfl rfl rfl (E.ST.call rfl ent47 (E.evc rfl (E.evc rfl (E.evc rfl E.evn))) ((within_r V.h 1 4 true (iff_of_true rfl h20) _).mono ?_))
        rintro e w20 ⟨rfl, l20⟩
        refine ⟨_, rfl, ?_⟩
        replace b1 := blk_below b1 l20
        replace L := below_step L l20
        refine E.GL.run rfl rfl rfl (E.Runs.not rfl rfl) ?_
        refine E.GL.run rfl rfl rfl (E.Runs.pick_f rfl rfl rfl) ?_
        refine E.GL.run rfl rfl rfl (E.Runs.move rfl rfl) ?_
        refine E.GL.run rfl rfl rfl (E.Runs.loads (cs := [.int .i64 V.d, .slice m.A V.rs.length m.a, .int .i64 V.h, .slice m.B V.fs.length m.b, .slice m.C V.ds.length m.c]) rfl rfl hu26 rfl info26s (blk_cells b1)) ?_
        refine E.GL.st rfl rfl rfl (E.ST.call rfl ent35 (E.evc rfl E.evn) ((slots_r V m _ h8 h14 h20).mono ?_))
        rintro e w25 ⟨rfl, l25⟩
        refine ⟨_, rfl, ?_⟩
        replace b1 := blk_below b1 l25
        replace L := below_step L l25
        refine E.GL.cmp rfl rfl rfl (fun _ h => (E.Runs.gtr rfl rfl rfl h)) (fun h26 => ?_) (fun h26 => ?_)
        · refine E.GL.run rfl rfl rfl (E.Runs.pick_f rfl rfl rfl) ?_
          refine E.GL.run rfl rfl rfl (E.Runs.move rfl rfl) ?_
          refine E.GL.skip rfl rfl rfl ?_
          refine E.GL.skip rfl rfl rfl ?_
          refine E.GL.skip rfl rfl rfl ?_
          refine E.GL.skip rfl rfl rfl ?_
          refine E.GL.run rfl rfl rfl (E.Runs.pick_t rfl rfl rfl) ?_
          refine E.GL.run rfl rfl rfl (E.Runs.move rfl rfl) ?_
          refine E.GL.skip rfl rfl rfl ?_
          refine E.GL.skip rfl rfl rfl ?_
          refine E.GL.skip rfl rfl rfl ?_
          refine E.GL.skip rfl rfl rfl ?_
          refine E.GL.run rfl rfl rfl (E.Runs.pick_t rfl rfl rfl) ?_
          refine E.GL.done ?_
          refine E.QG.code ?_
          refine E.CG.cond_t rfl ?_
          refine E.CG.seq ?_
          refine E.CG.list ?_
          refine E.GL.run rfl rfl rfl (E.Runs.assign rfl rfl) ?_
          refine E.GL.done ?_
          refine E.QG.code ?_
          refine E.CG.ret ?_
          refine E.QG.pass_ret ?_
          exact E.QG.result rfl rfl ⟨by rw [chk_shp (fun k => by have := k.s; omega)], L⟩
        · refine E.GL.run rfl rfl rfl (E.Runs.pick_f rfl rfl rfl) ?_
          refine E.GL.run rfl rfl rfl (E.Runs.move rfl rfl) ?_
          refine E.GL.run rfl rfl rfl (E.Runs.fieldAddr rfl rfl hu26 rfl (by assumption) rfl) ?_
          refine E.GL.run rfl rfl rfl (E.Runs.load1 rfl rfl hu23 rfl (by first | assumption | exact E.blkc (by assumption) rfl | exact pw_cell_below L (by assumption))) ?_
          refine E.GL.run rfl rfl rfl (E.Runs.len rfl rfl hu23) ?_
          refine E.GL.cmp rfl rfl rfl (fun _ h => (E.Runs.gtr rfl rfl rfl h)) (fun h32 => ?_) (fun h32 => ?_)
          · refine E.GL.run rfl rfl rfl (E.Runs.pick_f rfl rfl rfl) ?_
            refine E.GL.run rfl rfl rfl (E.Runs.move rfl rfl) ?_
            refine E.GL.skip rfl rfl rfl ?_
            refine E.GL.skip rfl rfl rfl ?_
            refine E.GL.skip rfl rfl rfl ?_
            refine E.GL.skip rfl rfl rfl ?_
            refine E.GL.run rfl rfl rfl (E.Runs.pick_t rfl rfl rfl) ?_
            refine E.GL.done ?_
            refine E.QG.code ?_
            refine E.CG.cond_t rfl ?_
            refine E.CG.seq ?_
            refine E.CG.list ?_
            refine E.GL.run rfl rfl rfl (E.Runs.assign rfl rfl) ?_
            refine E.GL.done ?_
            refine E.QG.code ?_
            refine E.CG.ret ?_
            refine E.QG.pass_ret ?_
            exact E.QG.result rfl rfl ⟨by rw [chk_shp (fun k => by have := k.f; omega)], L⟩
          · refine E.GL.run rfl rfl rfl (E.Runs.pick_f rfl rfl rfl) ?_
            refine E.GL.run rfl rfl rfl (E.Runs.move rfl rfl) ?_
            refine E.GL.run rfl rfl rfl (E.Runs.fieldAddr rfl rfl hu26 rfl (by assumption) rfl) ?_
            refine E.GL.run rfl rfl rfl (E.Runs.load1 rfl rfl hu24 rfl (by first | assumption | exact E.blkc (by assumption) rfl | exact pw_cell_below L (by assumption))) ?_
            refine E.GL.run rfl rfl rfl (E.Runs.len rfl rfl hu24) ?_
            refine E.GL.cmp rfl rfl rfl (fun _ h => (E.Runs.gtr rfl rfl rfl h)) (fun h38 => ?_) (fun h38 => ?_)
            · refine E.GL.run rfl rfl rfl (E.Runs.pick_f rfl rfl rfl) ?_
              refine E.GL.done ?_
              refine E.QG.code ?_
              refine E.CG.cond_t rfl ?_
              refine E.CG.seq ?_
              refine E.CG.list ?_
              refine E.GL.run rfl rfl rfl (E.Runs.assign rfl rfl) ?_
              refine E.GL.done ?_
              refine E.QG.code ?_
              refine E.CG.ret ?_
              refine E.QG.pass_ret ?_
              exact E.QG.result rfl rfl ⟨by rw [chk_shp (fun k => by have := k.ds; omega)], L⟩
            · refine E.GL.run rfl rfl rfl (E.Runs.pick_f rfl rfl rfl) ?_
              refine E.GL.done ?_
              refine E.QG.code ?_
              refine E.CG.cond_f rfl ?_
              refine E.CG.skip ?_
              refine E.QG.code ?_
              refine E.CG.seq ?_
              refine E.CG.seq ?_
              refine E.CG.list ?_
              refine E.GL.run rfl rfl rfl (E.Runs.assign rfl rfl) ?_
              refine E.GL.done ?_
              refine E.QG.code ?_
              refine E.CG.block ?_
              have s4_b1 := b1
              have s4_L := L
              refine E.CG.loop (fun (i : Nat) => [(1, .pointer (some ⟨g1, 0, none⟩)), (3, .int .i64 i)]) (fun i w' => i ≤ V.rs.length ∧ (∀ k, k < i → ∀ x, V.rs[k]? = some x → 1 ≤ x ∧ x ≤ 500) ∧ w'.heap[g1]? = some (.cells #[.int .i64 V.d, .slice m.A V.rs.length m.a, .int .i64 V.h, .slice m.B V.fs.length m.b, .slice m.C V.ds.length m.c] 26 (0, 0)) ∧ Below w.heap.size w w') (fun i => V.rs.length - i) 0 (E.subc rfl (E.subc rfl E.subn)) ⟨Nat.zero_le _, fun k hk => by omega, b1, L⟩ ?_
              rintro i w4 ⟨hi, hok, b1, L⟩
              refine E.CG.seq ?_
              refine E.CG.seq ?_
              refine E.CG.list ?_
              refine E.GL.run rfl rfl rfl (E.Runs.move rfl rfl) ?_
              refine E.GL.run rfl rfl rfl (E.Runs.fieldAddr rfl rfl hu26 rfl (by assumption) rfl) ?_
              refine E.GL.run rfl rfl rfl (E.Runs.load1 rfl rfl hu22 rfl (by first | assumption | exact E.blkc (by assumption) rfl | exact pw_cell_below L (by assumption))) ?_
              refine E.GL.run rfl rfl rfl (E.Runs.len rfl rfl hu22) ?_
              refine E.GL.cmp rfl rfl rfl (fun _ h => (E.Runs.lss rfl rfl rfl h)) (fun h44 => ?_) (fun h44 => ?_)
              · obtain ⟨x, hx⟩ := get_ex (show i < V.rs.length by omega)
                obtain ⟨ad, eA, X⟩ := int_at hV.rs hx
                refine E.GL.done ?_
                refine E.QG.code ?_
                refine E.CG.cond_t rfl ?_
                refine E.CG.skip ?_
                refine E.QG.code ?_
                refine E.CG.seq ?_
                refine E.CG.block ?_
                refine E.CG.seq ?_
                refine E.CG.list ?_
                refine E.GL.run rfl rfl rfl (E.Runs.fieldAddr rfl rfl hu26 rfl (by assumption) rfl) ?_
                refine E.GL.run rfl rfl rfl (E.Runs.load1 rfl rfl hu22 rfl (by first | assumption | exact E.blkc (by assumption) rfl | exact pw_cell_below L (by assumption))) ?_
                refine E.GL.run rfl rfl rfl (E.Runs.move rfl rfl) ?_
                refine E.GL.run rfl rfl rfl (E.Runs.indexAddrA (i := i) rfl rfl rfl hu22 z3 o3 (by omega) eA rfl) ?_
                refine E.GL.run rfl rfl rfl (E.Runs.load rfl rfl hu3 (pw_cell_below L X)) ?_
                by_cases h52 : inR x 1 500
                · refine E.GL.st rfl rfl rfl (E.ST.call rfl ent47 (E.evc rfl (E.evc rfl (E.evc rfl E.evn))) ((within_r x 1 500 true (iff_of_true rfl h52) _).mono ?_))
                  rintro e w52 ⟨rfl, l52⟩
                  refine ⟨_, rfl, ?_⟩
                  replace b1 := blk_below b1 l52
                  replace L := below_step L l52
                  refine E.GL.run rfl rfl rfl (E.Runs.not rfl rfl) ?_
                  refine E.GL.done ?_
                  refine E.QG.code ?_
                  refine E.CG.cond_f rfl ?_
                  refine E.CG.skip ?_
                  refine E.QG.block_normal ?_
                  refine E.QG.code ?_
                  refine E.CG.list ?_
                  refine E.GL.run rfl rfl rfl (E.Runs.move rfl rfl) ?_
                  refine E.GL.run rfl rfl rfl (E.Runs.add rfl rfl rfl (IntWalk.i64_in _ (by omega))) ?_
                  refine E.GL.run rfl rfl rfl (E.Runs.assign rfl rfl) ?_
                  refine E.GL.done ?_
                  exact E.QG.round (i + 1) (E.subc rfl (E.subc rfl E.subn)) ⟨by omega, all_more hok hx h52, b1, L⟩ (by omega)
                · refine E.GL.st rfl rfl rfl (E.ST.call rfl ent47 (E.evc rfl (E.evc rfl (E.evc rfl E.evn))) ((within_r x 1 500 false (iff_of_false Bool.false_ne_true h52) _).mono ?_))
                  rintro e w52 ⟨rfl, l52⟩
                  refine ⟨_, rfl, ?_⟩
                  replace b1 := blk_below b1 l52
                  replace L := below_step L l52
                  refine E.GL.run rfl rfl rfl (E.Runs.not rfl rfl) ?_
                  refine E.GL.done ?_
                  refine E.QG.code ?_
                  refine E.CG.cond_t rfl ?_
                  refine E.CG.seq ?_
                  refine E.CG.list ?_
                  refine E.GL.run rfl rfl rfl (E.Runs.assign rfl rfl) ?_
                  refine E.GL.done ?_
                  refine E.QG.code ?_
                  refine E.CG.ret ?_
                  refine E.QG.block_ret ?_
                  refine E.QG.pass_ret ?_
                  refine E.QG.pass_ret ?_
                  refine E.QG.block_ret ?_
                  refine E.QG.pass_ret ?_
                  exact E.QG.result rfl rfl ⟨by rw [chk_shp (fun k => h52 (k.rs x (List.mem_of_getElem? hx)))], L⟩
              · have har : AllR V.rs 1 500 := all_done hok (by omega)
                refine E.GL.done ?_
                refine E.QG.code ?_
                refine E.CG.cond_f rfl ?_
                refine E.CG.exit ?_
                refine E.QG.pass_exit ?_
                refine E.QG.pass_exit ?_
                refine E.QG.block_here ?_
                refine E.QG.code ?_
                refine E.CG.seq ?_
                refine E.CG.seq ?_
                refine E.CG.list ?_
                refine E.GL.run rfl rfl rfl (E.Runs.assign rfl rfl) ?_
                refine E.GL.done ?_
                refine E.QG.code ?_
                refine E.CG.block ?_
                have s9_b1 := b1
                have s9_L := L
                refine E.CG.loop (fun (i : Nat) => [(1, .pointer (some ⟨g1, 0, none⟩)), (4, .int .i64 i)]) (fun i w' => i ≤ V.fs.length ∧ (∀ k, k < i → ∀ x, V.fs[k]? = some x → MvOk V.h x) ∧ w'.heap[g1]? = some (.cells #[.int .i64 V.d, .slice m.A V.rs.length m.a, .int .i64 V.h, .slice m.B V.fs.length m.b, .slice m.C V.ds.length m.c] 26 (0, 0)) ∧ Below w.heap.size w w') (fun i => V.fs.length - i) 0 (E.subc rfl (E.subc rfl E.subn)) ⟨Nat.zero_le _, fun k hk => by omega, b1, L⟩ ?_
                rintro i w9 ⟨hi, hok, b1, L⟩
                refine E.CG.seq ?_
                refine E.CG.seq ?_
                refine E.CG.list ?_
                refine E.GL.run rfl rfl rfl (E.Runs.move rfl rfl) ?_
                refine E.GL.run rfl rfl rfl (E.Runs.fieldAddr rfl rfl hu26 rfl (by assumption) rfl) ?_
                refine E.GL.run rfl rfl rfl (E.Runs.load1 rfl rfl hu23 rfl (by first | assumption | exact E.blkc (by assumption) rfl | exact pw_cell_below L (by assumption))) ?_
                refine E.GL.run rfl rfl rfl (E.Runs.len rfl rfl hu23) ?_
                refine E.GL.cmp rfl rfl rfl (fun _ h => (E.Runs.lss rfl rfl rfl h)) (fun h58 => ?_) (fun h58 => ?_)
                · obtain ⟨x, hx⟩ := get_ex (show i < V.fs.length by omega)
                  obtain ⟨ad, a0, k0, eA, _, hx0, X⟩ := film_at hV.fs hx
                  refine E.GL.done ?_
                  refine E.QG.code ?_
                  refine E.CG.cond_t rfl ?_
                  refine E.CG.skip ?_
                  refine E.QG.code ?_
                  refine E.CG.seq ?_
                  refine E.CG.block ?_
                  refine E.CG.seq ?_
                  refine E.CG.heldH (none) (by kernel_rfl) fun v11 lD hh => ?_
                  replace b1 := blk_below b1 lD
                  replace L := below_step L lD
                  clear lD
                  have s_b1 := b1
                  have s_L := L
                  refine E.GH.take (i := 0) rfl (by kernel_rfl) (by kernel_rfl) (by kernel_rfl) (by intro c a d v w h; first | (cases d <;> exact h) | exact nomatch (show _ ∧ _ from h).1) rfl rfl rfl (fun w' hS => (E.Runs.fieldAddr rfl rfl hu26 rfl (by assumption) rfl)) ?_
                  refine E.GH.take (i := 1) rfl (by kernel_rfl) (by kernel_rfl) (by kernel_rfl) (by intro c a d v w h; first | (cases d <;> exact h) | exact nomatch (show _ ∧ _ from h).1) rfl rfl rfl (fun w' hS => (E.Runs.load rfl rfl hu3 (by first | exact E.keeps hS (E.blkc (by assumption) rfl) (by first | exact E.nen | exact E.nes (by assumption) | exact E.nes (Ne.symm (by assumption))) | exact pw_cell_below (below_step s_L (E.belowG hS)) (by assumption)))) ?_
                  refine E.GH.take (i := 2) rfl (by kernel_rfl) (by kernel_rfl) (by kernel_rfl) (by intro c a d v w h; first | (cases d <;> exact h) | exact nomatch (show _ ∧ _ from h).1) rfl rfl rfl (fun w' hS => (E.Runs.fieldAddr rfl rfl hu26 rfl (by assumption) rfl)) ?_
                  refine E.GH.take (i := 3) rfl (by kernel_rfl) (by kernel_rfl) (by kernel_rfl) (by intro c a d v w h; first | (cases d <;> exact h) | exact nomatch (show _ ∧ _ from h).1) rfl rfl rfl (fun w' hS => (E.Runs.load1 rfl rfl hu23 rfl (by first | exact E.keeps hS (E.blkc (by assumption) rfl) (by first | exact E.nen | exact E.nes (by assumption) | exact E.nes (Ne.symm (by assumption))) | exact pw_cell_below (below_step s_L (E.belowG hS)) (by assumption)))) ?_
                  refine E.GH.take (i := 4) rfl (by kernel_rfl) (by kernel_rfl) (by kernel_rfl) (by intro c a d v w h; first | (cases d <;> exact h) | exact nomatch (show _ ∧ _ from h).1) rfl rfl rfl (fun w' hS => (E.Runs.move rfl rfl)) ?_
                  refine E.GH.take (i := 5) rfl (by kernel_rfl) (by kernel_rfl) (by kernel_rfl) (by intro c a d v w h; first | (cases d <;> exact h) | exact nomatch (show _ ∧ _ from h).1) rfl rfl rfl (fun w' hS => (E.Runs.indexAddrA (i := i) rfl rfl rfl hu23 z49 o49 (by omega) eA rfl)) ?_
                  refine E.GH.take (i := 6) rfl (by kernel_rfl) (by kernel_rfl) (by kernel_rfl) (by intro c a d v w h; first | (cases d <;> exact h) | exact nomatch (show _ ∧ _ from h).1) rfl rfl rfl (fun w' hS => (E.Runs.loads (cs := [.int .i64 x.f0, .slice a0 x.f1.length k0]) rfl rfl hu49 rfl info49s (fun j v hv => pw_cell_below (below_step s_L (E.belowG hS)) (X j v hv)))) ?_
                  by_cases h68 : MvOk V.h x
                  · refine E.GH.one (i := 7) (by kernel_rfl) rfl ?_
                    refine E.GO.st rfl rfl rfl (E.ST.call rfl ent50 (E.evc rfl (E.evc rfl E.evn)) ((isMovie_r V.h x a0 k0 _ (Kd.C_below hx0 L) (hs.c x (List.mem_of_getElem? hx)) true (iff_of_true rfl h68)).mono ?_))
                    rintro e w68 ⟨rfl, l68⟩
                    refine ⟨_, rfl, hh.trans (E.gbB l68), ?_⟩
                    replace hh := hh.trans (E.gbB l68)
                    replace b1 := blk_below b1 l68
                    replace L := below_step L l68
                    refine E.GH.take (i := 8) rfl (by kernel_rfl) (by kernel_rfl) (by kernel_rfl) (by intro c a d v w h; first | (cases d <;> exact h) | exact nomatch (show _ ∧ _ from h).1) rfl rfl rfl (fun w' hS => (E.Runs.not rfl rfl)) ?_
                    refine E.GH.done (by kernel_rfl) ?_
                    refine E.QG.code ?_
                    refine E.CG.cond_f rfl ?_
                    refine E.CG.skip ?_
                    refine E.QG.block_normal ?_
                    refine E.QG.code ?_
                    refine E.CG.list ?_
                    refine E.GL.run rfl rfl rfl (E.Runs.move rfl rfl) ?_
                    refine E.GL.run rfl rfl rfl (E.Runs.add rfl rfl rfl (IntWalk.i64_in _ (by omega))) ?_
                    refine E.GL.run rfl rfl rfl (E.Runs.assign rfl rfl) ?_
                    refine E.GL.done ?_
                    exact E.QG.round (i + 1) (E.subc rfl (E.subc rfl E.subn)) ⟨by omega, all_more hok hx h68, b1, L⟩ (by omega)
                  · refine E.GH.one (i := 7) (by kernel_rfl) rfl ?_
                    refine E.GO.st rfl rfl rfl (E.ST.call rfl ent50 (E.evc rfl (E.evc rfl E.evn)) ((isMovie_r V.h x a0 k0 _ (Kd.C_below hx0 L) (hs.c x (List.mem_of_getElem? hx)) false (iff_of_false Bool.false_ne_true h68)).mono ?_))
                    rintro e w68 ⟨rfl, l68⟩
                    refine ⟨_, rfl, hh.trans (E.gbB l68), ?_⟩
                    replace hh := hh.trans (E.gbB l68)
                    replace b1 := blk_below b1 l68
                    replace L := below_step L l68
                    refine E.GH.take (i := 8) rfl (by kernel_rfl) (by kernel_rfl) (by kernel_rfl) (by intro c a d v w h; first | (cases d <;> exact h) | exact nomatch (show _ ∧ _ from h).1) rfl rfl rfl (fun w' hS => (E.Runs.not rfl rfl)) ?_
                    refine E.GH.done (by kernel_rfl) ?_
                    refine E.QG.code ?_
                    refine E.CG.cond_t rfl ?_
                    refine E.CG.seq ?_
                    refine E.CG.list ?_
                    refine E.GL.run rfl rfl rfl (E.Runs.assign rfl rfl) ?_
                    refine E.GL.done ?_
                    refine E.QG.code ?_
                    refine E.CG.ret ?_
                    refine E.QG.block_ret ?_
                    refine E.QG.pass_ret ?_
                    refine E.QG.pass_ret ?_
                    refine E.QG.block_ret ?_
                    refine E.QG.pass_ret ?_
                    exact E.QG.result rfl rfl ⟨by rw [chk_shp (fun k => h68 (k.fs x (List.mem_of_getElem? hx)))], L⟩
                · have hsp : Shp V := ⟨h8, h14, har, h20, by omega, by omega, by omega, all_done hok (by omega)⟩
                  refine E.GL.done ?_
                  refine E.QG.code ?_
                  refine E.CG.cond_f rfl ?_
                  refine E.CG.exit ?_
                  refine E.QG.pass_exit ?_
                  refine E.QG.pass_exit ?_
                  refine E.QG.block_here ?_
                  refine E.QG.code ?_
                  refine E.CG.seq ?_
                  refine E.CG.seq ?_
                  refine E.CG.list ?_
                  refine E.GL.run rfl rfl rfl (E.Runs.assign rfl rfl) ?_
                  refine E.GL.done ?_
                  refine E.QG.code ?_
                  refine E.CG.block ?_
                  have s14_b1 := b1
                  have s14_L := L
                  refine E.CG.loop (fun (i : Nat) => [(1, .pointer (some ⟨g1, 0, none⟩)), (5, .int .i64 i)]) (fun i w' => i ≤ V.ds.length ∧ (∀ k, k < i → ∀ x, V.ds[k]? = some x → DOk V x) ∧ w'.heap[g1]? = some (.cells #[.int .i64 V.d, .slice m.A V.rs.length m.a, .int .i64 V.h, .slice m.B V.fs.length m.b, .slice m.C V.ds.length m.c] 26 (0, 0)) ∧ Below w.heap.size w w') (fun i => V.ds.length - i) 0 (E.subc rfl (E.subc rfl E.subn)) ⟨Nat.zero_le _, fun k hk => by omega, b1, L⟩ ?_
                  rintro i w14 ⟨hi, hok, b1, L⟩
                  refine E.CG.seq ?_
                  refine E.CG.seq ?_
                  refine E.CG.list ?_
                  refine E.GL.run rfl rfl rfl (E.Runs.move rfl rfl) ?_
                  refine E.GL.run rfl rfl rfl (E.Runs.fieldAddr rfl rfl hu26 rfl (by assumption) rfl) ?_
                  refine E.GL.run rfl rfl rfl (E.Runs.load1 rfl rfl hu24 rfl (by first | assumption | exact E.blkc (by assumption) rfl | exact pw_cell_below L (by assumption))) ?_
                  refine E.GL.run rfl rfl rfl (E.Runs.len rfl rfl hu24) ?_
                  refine E.GL.cmp rfl rfl rfl (fun _ h => (E.Runs.lss rfl rfl rfl h)) (fun h74 => ?_) (fun h74 => ?_)
                  · obtain ⟨x, hx⟩ := get_ex (show i < V.ds.length by omega)
                    obtain ⟨ad, eA, X⟩ := deal_at hV.ds hx
                    refine E.GL.done ?_
                    refine E.QG.code ?_
                    refine E.CG.cond_t rfl ?_
                    refine E.CG.skip ?_
                    refine E.QG.code ?_
                    refine E.CG.seq ?_
                    refine E.CG.block ?_
                    refine E.CG.seq ?_
                    refine E.CG.heldH (none) (by kernel_rfl) fun v16 lD hh => ?_
                    replace b1 := blk_below b1 lD
                    replace L := below_step L lD
                    clear lD
                    have s_b1 := b1
                    have s_L := L
                    refine E.GH.take (i := 0) rfl (by kernel_rfl) (by kernel_rfl) (by kernel_rfl) (by intro c a d v w h; first | (cases d <;> exact h) | exact nomatch (show _ ∧ _ from h).1) rfl rfl rfl (fun w' hS => (E.Runs.loads (cs := [.int .i64 V.d, .slice m.A V.rs.length m.a, .int .i64 V.h, .slice m.B V.fs.length m.b, .slice m.C V.ds.length m.c]) rfl rfl hu26 rfl info26s (blk_cells (blk_grown s_b1 hS E.nen)))) ?_
                    refine E.GH.take (i := 1) rfl (by kernel_rfl) (by kernel_rfl) (by kernel_rfl) (by intro c a d v w h; first | (cases d <;> exact h) | exact nomatch (show _ ∧ _ from h).1) rfl rfl rfl (fun w' hS => (E.Runs.fieldAddr rfl rfl hu26 rfl (by assumption) rfl)) ?_
                    refine E.GH.take (i := 2) rfl (by kernel_rfl) (by kernel_rfl) (by kernel_rfl) (by intro c a d v w h; first | (cases d <;> exact h) | exact nomatch (show _ ∧ _ from h).1) rfl rfl rfl (fun w' hS => (E.Runs.load1 rfl rfl hu24 rfl (by first | exact E.keeps hS (E.blkc (by assumption) rfl) (by first | exact E.nen | exact E.nes (by assumption) | exact E.nes (Ne.symm (by assumption))) | exact pw_cell_below (below_step s_L (E.belowG hS)) (by assumption)))) ?_
                    refine E.GH.take (i := 3) rfl (by kernel_rfl) (by kernel_rfl) (by kernel_rfl) (by intro c a d v w h; first | (cases d <;> exact h) | exact nomatch (show _ ∧ _ from h).1) rfl rfl rfl (fun w' hS => (E.Runs.move rfl rfl)) ?_
                    refine E.GH.take (i := 4) rfl (by kernel_rfl) (by kernel_rfl) (by kernel_rfl) (by intro c a d v w h; first | (cases d <;> exact h) | exact nomatch (show _ ∧ _ from h).1) rfl rfl rfl (fun w' hS => (E.Runs.indexAddrA (i := i) rfl rfl rfl hu24 z45 o45 (by omega) eA rfl)) ?_
                    refine E.GH.take (i := 5) rfl (by kernel_rfl) (by kernel_rfl) (by kernel_rfl) (by intro c a d v w h; first | (cases d <;> exact h) | exact nomatch (show _ ∧ _ from h).1) rfl rfl rfl (fun w' hS => (E.Runs.loads (cs := [.int .i64 x.f0, .int .i64 x.f1, .int .i64 x.f2, .int .i64 x.f3, .int .i64 x.f4, .int .i64 x.f5, .int .i64 x.f6, .int .i64 x.f7]) rfl rfl hu45 rfl info45s (fun j v hv => pw_cell_below (below_step s_L (E.belowG hS)) (X j v hv)))) ?_
                    by_cases h83 : DOk V x
                    · refine E.GH.one (i := 6) (by kernel_rfl) rfl ?_
                      refine E.GO.st rfl rfl rfl (E.ST.call rfl ent51 (E.evc rfl (E.evc rfl E.evn)) ((isDeal_r V m x hs.f true (iff_of_true rfl h83) _).mono ?_))
                      rintro e w83 ⟨rfl, l83⟩
                      refine ⟨_, rfl, hh.trans (E.gbB l83), ?_⟩
                      replace hh := hh.trans (E.gbB l83)
                      replace b1 := blk_below b1 l83
                      replace L := below_step L l83
                      refine E.GH.take (i := 7) rfl (by kernel_rfl) (by kernel_rfl) (by kernel_rfl) (by intro c a d v w h; first | (cases d <;> exact h) | exact nomatch (show _ ∧ _ from h).1) rfl rfl rfl (fun w' hS => (E.Runs.not rfl rfl)) ?_
                      refine E.GH.done (by kernel_rfl) ?_
                      refine E.QG.code ?_
                      refine E.CG.cond_f rfl ?_
                      refine E.CG.skip ?_
                      refine E.QG.block_normal ?_
                      refine E.QG.code ?_
                      refine E.CG.list ?_
                      refine E.GL.run rfl rfl rfl (E.Runs.move rfl rfl) ?_
                      refine E.GL.run rfl rfl rfl (E.Runs.add rfl rfl rfl (IntWalk.i64_in _ (by omega))) ?_
                      refine E.GL.run rfl rfl rfl (E.Runs.assign rfl rfl) ?_
                      refine E.GL.done ?_
                      exact E.QG.round (i + 1) (E.subc rfl (E.subc rfl E.subn)) ⟨by omega, all_more hok hx h83, b1, L⟩ (by omega)
                    · refine E.GH.one (i := 6) (by kernel_rfl) rfl ?_
                      refine E.GO.st rfl rfl rfl (E.ST.call rfl ent51 (E.evc rfl (E.evc rfl E.evn)) ((isDeal_r V m x hs.f false (iff_of_false Bool.false_ne_true h83) _).mono ?_))
                      rintro e w83 ⟨rfl, l83⟩
                      refine ⟨_, rfl, hh.trans (E.gbB l83), ?_⟩
                      replace hh := hh.trans (E.gbB l83)
                      replace b1 := blk_below b1 l83
                      replace L := below_step L l83
                      refine E.GH.take (i := 7) rfl (by kernel_rfl) (by kernel_rfl) (by kernel_rfl) (by intro c a d v w h; first | (cases d <;> exact h) | exact nomatch (show _ ∧ _ from h).1) rfl rfl rfl (fun w' hS => (E.Runs.not rfl rfl)) ?_
                      refine E.GH.done (by kernel_rfl) ?_
                      refine E.QG.code ?_
                      refine E.CG.cond_t rfl ?_
                      refine E.CG.seq ?_
                      refine E.CG.list ?_
                      refine E.GL.run rfl rfl rfl (E.Runs.assign rfl rfl) ?_
                      refine E.GL.done ?_
                      refine E.QG.code ?_
                      refine E.CG.ret ?_
                      refine E.QG.block_ret ?_
                      refine E.QG.pass_ret ?_
                      refine E.QG.pass_ret ?_
                      refine E.QG.block_ret ?_
                      refine E.QG.pass_ret ?_
                      exact E.QG.result rfl rfl ⟨by rw [chk_ds hsp (fun k => h83 (k x (List.mem_of_getElem? hx)))], L⟩
                  · refine E.GL.done ?_
                    refine E.QG.code ?_
                    refine E.CG.cond_f rfl ?_
                    refine E.CG.exit ?_
                    refine E.QG.pass_exit ?_
                    refine E.QG.pass_exit ?_
                    refine E.QG.block_here ?_
                    refine E.QG.code ?_
                    refine E.CG.seq ?_
                    refine E.CG.list ?_
                    refine E.GL.run rfl rfl rfl (E.Runs.assign rfl rfl) ?_
                    refine E.GL.done ?_
                    refine E.QG.code ?_
                    refine E.CG.ret ?_
                    exact E.QG.result rfl rfl ⟨by rw [chk_yes hsp (all_done hok (by omega))], L⟩
      · refine E.GL.st rfl rfl rfl (E.ST.call rfl ent47 (E.evc rfl (E.evc rfl (E.evc rfl E.evn))) ((within_r V.h 1 4 false (iff_of_false Bool.false_ne_true h20) _).mono ?_))
        rintro e w20 ⟨rfl, l20⟩
        refine ⟨_, rfl, ?_⟩
        replace b1 := blk_below b1 l20
        replace L := below_step L l20
        refine E.GL.run rfl rfl rfl (E.Runs.not rfl rfl) ?_
        refine E.GL.run rfl rfl rfl (E.Runs.pick_f rfl rfl rfl) ?_
        refine E.GL.run rfl rfl rfl (E.Runs.move rfl rfl) ?_
        refine E.GL.skip rfl rfl rfl ?_
        refine E.GL.skip rfl rfl rfl ?_
        refine E.GL.skip rfl rfl rfl ?_
        refine E.GL.run rfl rfl rfl (E.Runs.pick_t rfl rfl rfl) ?_
        refine E.GL.run rfl rfl rfl (E.Runs.move rfl rfl) ?_
        refine E.GL.skip rfl rfl rfl ?_
        refine E.GL.skip rfl rfl rfl ?_
        refine E.GL.skip rfl rfl rfl ?_
        refine E.GL.skip rfl rfl rfl ?_
        refine E.GL.run rfl rfl rfl (E.Runs.pick_t rfl rfl rfl) ?_
        refine E.GL.run rfl rfl rfl (E.Runs.move rfl rfl) ?_
        refine E.GL.skip rfl rfl rfl ?_
        refine E.GL.skip rfl rfl rfl ?_
        refine E.GL.skip rfl rfl rfl ?_
        refine E.GL.skip rfl rfl rfl ?_
        refine E.GL.run rfl rfl rfl (E.Runs.pick_t rfl rfl rfl) ?_
        refine E.GL.done ?_
        refine E.QG.code ?_
        refine E.CG.cond_t rfl ?_
        refine E.CG.seq ?_
        refine E.CG.list ?_
        refine E.GL.run rfl rfl rfl (E.Runs.assign rfl rfl) ?_
        refine E.GL.done ?_
        refine E.QG.code ?_
        refine E.CG.ret ?_
        refine E.QG.pass_ret ?_
        exact E.QG.result rfl rfl ⟨by rw [chk_shp (fun k => h20 k.h)], L⟩
    · refine E.GL.st rfl rfl rfl (E.ST.call rfl ent47 (E.evc rfl (E.evc rfl (E.evc rfl E.evn))) ((within_r V.rs.length 1 4 false (iff_of_false Bool.false_ne_true h14) _).mono ?_))
      rintro e w14 ⟨rfl, l14⟩
      refine ⟨_, rfl, ?_⟩
      replace b1 := blk_below b1 l14
      replace L := below_step L l14
      refine E.GL.run rfl rfl rfl (E.Runs.not rfl rfl) ?_
      refine E.GL.run rfl rfl rfl (E.Runs.pick_f rfl rfl rfl) ?_
      refine E.GL.run rfl rfl rfl (E.Runs.move rfl rfl) ?_
      refine E.GL.skip rfl rfl rfl ?_
      refine E.GL.skip rfl rfl rfl ?_
      refine E.GL.skip rfl rfl rfl ?_
      refine E.GL.skip rfl rfl rfl ?_
      refine E.GL.run rfl rfl rfl (E.Runs.pick_t rfl rfl rfl) ?_
      refine E.GL.run rfl rfl rfl (E.Runs.move rfl rfl) ?_
      refine E.GL.skip rfl rfl rfl ?_
      refine E.GL.skip rfl rfl rfl ?_
      refine E.GL.skip rfl rfl rfl ?_
      refine E.GL.run rfl rfl rfl (E.Runs.pick_t rfl rfl rfl) ?_
      refine E.GL.run rfl rfl rfl (E.Runs.move rfl rfl) ?_
      refine E.GL.skip rfl rfl rfl ?_
      refine E.GL.skip rfl rfl rfl ?_
      refine E.GL.skip rfl rfl rfl ?_
      refine E.GL.skip rfl rfl rfl ?_
      refine E.GL.run rfl rfl rfl (E.Runs.pick_t rfl rfl rfl) ?_
      refine E.GL.run rfl rfl rfl (E.Runs.move rfl rfl) ?_
      refine E.GL.skip rfl rfl rfl ?_
      refine E.GL.skip rfl rfl rfl ?_
      refine E.GL.skip rfl rfl rfl ?_
      refine E.GL.skip rfl rfl rfl ?_
      refine E.GL.run rfl rfl rfl (E.Runs.pick_t rfl rfl rfl) ?_
      refine E.GL.done ?_
      refine E.QG.code ?_
      refine E.CG.cond_t rfl ?_
      refine E.CG.seq ?_
      refine E.CG.list ?_
      refine E.GL.run rfl rfl rfl (E.Runs.assign rfl rfl) ?_
      refine E.GL.done ?_
      refine E.QG.code ?_
      refine E.CG.ret ?_
      refine E.QG.pass_ret ?_
      exact E.QG.result rfl rfl ⟨by rw [chk_shp (fun k => h14 k.r)], L⟩
  · refine E.GL.st rfl rfl rfl (E.ST.call rfl ent47 (E.evc rfl (E.evc rfl (E.evc rfl E.evn))) ((within_r V.d 1 7 false (iff_of_false Bool.false_ne_true h8) _).mono ?_))
    rintro e w8 ⟨rfl, l8⟩
    refine ⟨_, rfl, ?_⟩
    replace b1 := blk_below b1 l8
    replace L := below_step L l8
    refine E.GL.run rfl rfl rfl (E.Runs.not rfl rfl) ?_
    refine E.GL.run rfl rfl rfl (E.Runs.move rfl rfl) ?_
    refine E.GL.skip rfl rfl rfl ?_
    refine E.GL.skip rfl rfl rfl ?_
    refine E.GL.skip rfl rfl rfl ?_
    refine E.GL.skip rfl rfl rfl ?_
    refine E.GL.skip rfl rfl rfl ?_
    refine E.GL.run rfl rfl rfl (E.Runs.pick_t rfl rfl rfl) ?_
    refine E.GL.run rfl rfl rfl (E.Runs.move rfl rfl) ?_
    refine E.GL.skip rfl rfl rfl ?_
    refine E.GL.skip rfl rfl rfl ?_
    refine E.GL.skip rfl rfl rfl ?_
    refine E.GL.skip rfl rfl rfl ?_
    refine E.GL.run rfl rfl rfl (E.Runs.pick_t rfl rfl rfl) ?_
    refine E.GL.run rfl rfl rfl (E.Runs.move rfl rfl) ?_
    refine E.GL.skip rfl rfl rfl ?_
    refine E.GL.skip rfl rfl rfl ?_
    refine E.GL.skip rfl rfl rfl ?_
    refine E.GL.run rfl rfl rfl (E.Runs.pick_t rfl rfl rfl) ?_
    refine E.GL.run rfl rfl rfl (E.Runs.move rfl rfl) ?_
    refine E.GL.skip rfl rfl rfl ?_
    refine E.GL.skip rfl rfl rfl ?_
    refine E.GL.skip rfl rfl rfl ?_
    refine E.GL.skip rfl rfl rfl ?_
    refine E.GL.run rfl rfl rfl (E.Runs.pick_t rfl rfl rfl) ?_
    refine E.GL.run rfl rfl rfl (E.Runs.move rfl rfl) ?_
    refine E.GL.skip rfl rfl rfl ?_
    refine E.GL.skip rfl rfl rfl ?_
    refine E.GL.skip rfl rfl rfl ?_
    refine E.GL.skip rfl rfl rfl ?_
    refine E.GL.run rfl rfl rfl (E.Runs.pick_t rfl rfl rfl) ?_
    refine E.GL.done ?_
    refine E.QG.code ?_
    refine E.CG.cond_t rfl ?_
    refine E.CG.seq ?_
    refine E.CG.list ?_
    refine E.GL.run rfl rfl rfl (E.Runs.assign rfl rfl) ?_
    refine E.GL.done ?_
    refine E.QG.code ?_
    refine E.CG.ret ?_
    refine E.QG.pass_ret ?_
    exact E.QG.result rfl rfl ⟨by rw [chk_shp (fun k => h8 k.d)], L⟩

end Go.Proofs.Ytdiambcjghlffaa.T
namespace Go.Proofs.Ytdiambcjghlffaa.E
open Go.RowKit Go.Proofs.YtdiambcjghlffaaW.PrintWords Go.Proofs.YtdiambcjghlffaaW.PrintMore
open Go.Proofs.Ytdiambcjghlffaa.T
set_option linter.unusedVariables false
section
variable {P : Program} {Q : Exit → Act → World → Prop} {N : Nat} {w : World} {env : Env}
theorem CG.scope {c : Code} (h : CG P c (Exit.noGoto Q) N env w) : CG P (.scope c) Q N env w := fun a ha => wp_scope_straight (h a ha)
theorem QG.scope_ret (h : QG Q .ret N env w) : QG (Exit.noGoto Q) .ret N env w := h
end
end Go.Proofs.Ytdiambcjghlffaa.E
namespace Go.Proofs.Ytdiambcjghlffaa.T
open Go.RowKit Go.Proofs.YtdiambcjghlffaaW.PrintWords Go.Proofs.YtdiambcjghlffaaW.PrintMore
open Go.Proofs.Ytdiambcjghlffaa.P
set_option linter.unusedVariables false
set_option linter.unusedSimpArgs false

theorem shN_step {V : Wk} {x : S45} {p : List Int} {day h i : Nat} {s y : Int} (hs : V.rs[i]? = some s) (hy : p[slN V day i h]? = some y) : shN V x p day h (i + 1) = shN V x p day h i + (if x.f6 ≤ s ∧ y = x.f1 then 1 else 0) := by
  rw [shN]
  congr 1
  unfold hit
  rw [getD_of hs, getD_of hy]
  by_cases h1 : x.f6 ≤ s
  · by_cases h2 : y = x.f1
    · simp [h1, h2]
    · simp [h1, h2]
  · simp [h1]
theorem le_mn {a b : Int} : 1 ≤ mn a b ↔ 1 ≤ a ∧ 1 ≤ b := by unfold mn; split <;> omega
theorem mx_le {a b : Int} : mx a b ≤ 1 ↔ a ≤ 1 ∧ b ≤ 1 := by unfold mx; split <;> omega
theorem DOk.nat {V : Wk} {x : S45} (h : DOk V x) (ok : Shp V) : (x.f2 = (x.f2.toNat : Int) ∧ x.f3 = (x.f3.toNat : Int) ∧ x.f4 = (x.f4.toNat : Int) ∧ x.f5 = (x.f5.toNat : Int) ∧ V.d = (V.d.toNat : Int) ∧ V.h = (V.h.toNat : Int)) ∧ x.f2.toNat ≤ x.f3.toNat ∧ x.f3.toNat < V.d.toNat ∧ x.f4.toNat ≤ x.f5.toNat ∧ x.f5.toNat < V.h.toNat := by
  obtain ⟨_, h2, h3, h4, h5, _⟩ := h
  have hd := ok.d
  have hh := ok.h
  unfold inR at h2 h4
  omega
set_option maxRecDepth 100000 in
set_option maxHeartbeats 8000000 in

theorem slot_o (V : Wk) (m : Wa) (day r h : Nat) (w : World) (ok : Shp V) (hd : day < 7) (hr : r < 4) (hh : h < 4) :
    Calls Try.prog 77 #[wv V m, .int .i64 (day : Int), .int .i64 (r : Int), .int .i64 (h : Int)] w fun e w' => e = .returned (.int .i64 ((slN V day r h : Nat) : Int)) ∧ Below w.heap.size w w' := by
  have hu3 := Try.underlying3
  have hu22 := Try.underlying22
  have hu26 := Try.underlying26
  obtain ⟨z3, o3⟩ := info_some info3s (by decide)
  obtain ⟨z22, o22⟩ := info_some info22s (by decide)
  have oh := ok.h
  have or := ok.r
  have e1 := mul_small (x := (day : Int)) (y := V.rs.length) (a := 7) (b := 4) (by omega) (by omega) (by omega) (by omega)
  have e2 := mul_small (x := (day : Int) * V.rs.length + r) (y := V.h) (a := 32) (b := 4) (by omega) (by omega) (by omega) (by omega)
  have e3 := slN_int (V := V) (by omega) day r h
  refine E.enter (N := 21) Try.func77 rfl Try.ntmps77 (args := [wv V m, .int .i64 (day : Int), .int .i64 (r : Int), .int .i64 (h : Int)]) (by simp) ?_
  have L := Below.refl w.heap.size w
  refine E.CG.seq ?_
  refine E.CG.list ?_
  refine E.GL.st rfl rfl rfl (E.ST.box rfl rfl fun g4 w4 e4 b4 l4 => ?_)
  have h4_L : w.heap.size ≤ g4 := by rw [e4]; exact L.size
  replace L := below_step L l4
  refine E.GL.run rfl rfl rfl (E.Runs.assign rfl rfl) ?_
  refine E.GL.done ?_
  refine E.QG.code ?_
  refine E.CG.seq ?_
  refine E.CG.list ?_
  refine E.GL.run rfl rfl rfl (E.Runs.move rfl rfl) ?_
  refine E.GL.run rfl rfl rfl (E.Runs.fieldAddr rfl rfl hu26 rfl (by assumption) rfl) ?_
  refine E.GL.run rfl rfl rfl (E.Runs.load1 rfl rfl hu22 rfl (by first | assumption | exact E.blkc (by assumption) rfl | exact pw_cell_below L (by assumption))) ?_
  refine E.GL.run rfl rfl rfl (E.Runs.len rfl rfl hu22) ?_
  refine E.GL.run rfl rfl rfl (E.Runs.mul rfl rfl rfl (IntWalk.i64_in _ (by omega))) ?_
  refine E.GL.run rfl rfl rfl (E.Runs.move rfl rfl) ?_
  refine E.GL.run rfl rfl rfl (E.Runs.add rfl rfl rfl (IntWalk.i64_in _ (by omega))) ?_
  refine E.GL.run rfl rfl rfl (E.Runs.fieldAddr rfl rfl hu26 rfl (by assumption) rfl) ?_
  refine E.GL.run rfl rfl rfl (E.Runs.load rfl rfl hu3 (by first | assumption | exact E.blkc (by assumption) rfl | exact pw_cell_below L (by assumption))) ?_
  refine E.GL.run rfl rfl rfl (E.Runs.mul rfl rfl rfl (IntWalk.i64_in _ (by omega))) ?_
  refine E.GL.run rfl rfl rfl (E.Runs.move rfl rfl) ?_
  refine E.GL.run rfl rfl rfl (E.Runs.add rfl rfl rfl (IntWalk.i64_in _ (by omega))) ?_
  refine E.GL.run rfl rfl rfl (E.Runs.assign rfl rfl) ?_
  refine E.GL.done ?_
  refine E.QG.code ?_
  refine E.CG.ret ?_
  exact E.QG.result rfl rfl ⟨by rw [e3], L⟩

set_option maxRecDepth 100000 in
set_option maxHeartbeats 8000000 in

theorem slot_r (V : Wk) (m : Wa) (day r h : Nat) (w : World) (ok : Shp V) (hd : day < 7) (hr : r < 4) (hh : h < 4) :
    Calls Try.prog 33 #[wv V m, .int .i64 (day : Int), .int .i64 (r : Int), .int .i64 (h : Int)] w fun e w' => e = .returned (.int .i64 ((slN V day r h : Nat) : Int)) ∧ Below w.heap.size w w' := by
  have hu3 := Try.underlying3
  have hu22 := Try.underlying22
  have hu26 := Try.underlying26
  obtain ⟨z3, o3⟩ := info_some info3s (by decide)
  obtain ⟨z22, o22⟩ := info_some info22s (by decide)
  have oh := ok.h
  have or := ok.r
  have e1 := mul_small (x := (day : Int)) (y := V.rs.length) (a := 7) (b := 4) (by omega) (by omega) (by omega) (by omega)
  have e2 := mul_small (x := (day : Int) * V.rs.length + r) (y := V.h) (a := 32) (b := 4) (by omega) (by omega) (by omega) (by omega)
  have e3 := slN_int (V := V) (by omega) day r h
  refine E.enter (N := 21) Try.func33 rfl Try.ntmps33 (args := [wv V m, .int .i64 (day : Int), .int .i64 (r : Int), .int .i64 (h : Int)]) (by simp) ?_
  have L := Below.refl w.heap.size w
  refine E.CG.seq ?_
  refine E.CG.list ?_
  refine E.GL.st rfl rfl rfl (E.ST.box rfl rfl fun g4 w4 e4 b4 l4 => ?_)
  have h4_L : w.heap.size ≤ g4 := by rw [e4]; exact L.size
  replace L := below_step L l4
  refine E.GL.run rfl rfl rfl (E.Runs.assign rfl rfl) ?_
  refine E.GL.done ?_
  refine E.QG.code ?_
  refine E.CG.seq ?_
  refine E.CG.list ?_
  refine E.GL.run rfl rfl rfl (E.Runs.move rfl rfl) ?_
  refine E.GL.run rfl rfl rfl (E.Runs.fieldAddr rfl rfl hu26 rfl (by assumption) rfl) ?_
  refine E.GL.run rfl rfl rfl (E.Runs.load1 rfl rfl hu22 rfl (by first | assumption | exact E.blkc (by assumption) rfl | exact pw_cell_below L (by assumption))) ?_
  refine E.GL.run rfl rfl rfl (E.Runs.len rfl rfl hu22) ?_
  refine E.GL.run rfl rfl rfl (E.Runs.mul rfl rfl rfl (IntWalk.i64_in _ (by omega))) ?_
  refine E.GL.run rfl rfl rfl (E.Runs.move rfl rfl) ?_
  refine E.GL.run rfl rfl rfl (E.Runs.add rfl rfl rfl (IntWalk.i64_in _ (by omega))) ?_
  refine E.GL.run rfl rfl rfl (E.Runs.fieldAddr rfl rfl hu26 rfl (by assumption) rfl) ?_
  refine E.GL.run rfl rfl rfl (E.Runs.load rfl rfl hu3 (by first | assumption | exact E.blkc (by assumption) rfl | exact pw_cell_below L (by assumption))) ?_
  refine E.GL.run rfl rfl rfl (E.Runs.mul rfl rfl rfl (IntWalk.i64_in _ (by omega))) ?_
  refine E.GL.run rfl rfl rfl (E.Runs.move rfl rfl) ?_
  refine E.GL.run rfl rfl rfl (E.Runs.add rfl rfl rfl (IntWalk.i64_in _ (by omega))) ?_
  refine E.GL.run rfl rfl rfl (E.Runs.assign rfl rfl) ?_
  refine E.GL.done ?_
  refine E.QG.code ?_
  refine E.CG.ret ?_
  exact E.QG.result rfl rfl ⟨by rw [e3], L⟩

set_option maxRecDepth 100000 in
set_option maxHeartbeats 8000000 in

theorem shown_o (V : Wk) (m : Wa) (x : S45) (p : List Int) (A : Option Addr) (c : Nat) (w : World) (ok : Shp V) (hV : WM w V m) (hx : DOk V x) (hp : Kd.C kI w A p.length p) (hpl : p.length = Sl V) (day h : Nat) (hd : day < V.d.toNat) (hh : h < V.h.toNat) :
    Calls Try.prog 67 #[wv V m, .agg #[.int .i64 x.f0, .int .i64 x.f1, .int .i64 x.f2, .int .i64 x.f3, .int .i64 x.f4, .int .i64 x.f5, .int .i64 x.f6, .int .i64 x.f7], .slice A p.length c, .int .i64 (day : Int), .int .i64 (h : Int)] w fun e w' => e = .returned (.int .i64 ((sh V x p day h : Nat) : Int)) ∧ Below w.heap.size w w' := by
  have hu3 := Try.underlying3
  have hu22 := Try.underlying22
  have hu26 := Try.underlying26
  have hu45 := Try.underlying45
  obtain ⟨z3, o3⟩ := info_some info3s (by decide)
  obtain ⟨z22, o22⟩ := info_some info22s (by decide)
  obtain ⟨⟨n2, n3, n4, n5, nd, nh⟩, m2, m3, m4, m5⟩ := hx.nat ok
  obtain ⟨_, hsl8, _⟩ := slots_nat ok
  have okd := ok.d
  have okh := ok.h
  have okr := ok.r
  refine E.enter (N := 42) Try.func67 rfl Try.ntmps67 (args := [wv V m, .agg #[.int .i64 x.f0, .int .i64 x.f1, .int .i64 x.f2, .int .i64 x.f3, .int .i64 x.f4, .int .i64 x.f5, .int .i64 x.f6, .int .i64 x.f7], .slice A p.length c, .int .i64 (day : Int), .int .i64 (h : Int)]) (by simp) ?_
  have L := Below.refl w.heap.size w
  refine E.CG.seq ?_
  refine E.CG.list ?_
  refine E.GL.st rfl rfl rfl (E.ST.box rfl rfl fun g5 w5 e5 b5 l5 => ?_)
  have h5_L : w.heap.size ≤ g5 := by rw [e5]; exact L.size
  replace L := below_step L l5
  refine E.GL.st rfl rfl rfl (E.ST.box rfl rfl fun g6 w6 e6 b6 l6 => ?_)
  have h6_L : w.heap.size ≤ g6 := by rw [e6]; exact L.size
  have n6_b5 : g5 ≠ g6 := by have := blk_lt b5; omega
  replace b5 := blk_below b5 l6
  replace L := below_step L l6
  refine E.GL.run rfl rfl rfl (E.Runs.assign rfl rfl) ?_
  refine E.GL.done ?_
  refine E.QG.code ?_
  refine E.CG.seq ?_
  refine E.CG.seq ?_
  refine E.CG.list ?_
  refine E.GL.run rfl rfl rfl (E.Runs.fieldAddr rfl rfl hu26 rfl (by assumption) rfl) ?_
  refine E.GL.run rfl rfl rfl (E.Runs.load1 rfl rfl hu22 rfl (by first | assumption | exact E.blkc (by assumption) rfl | exact pw_cell_below L (by assumption))) ?_
  refine E.GL.run rfl rfl rfl (E.Runs.len rfl rfl hu22) ?_
  refine E.GL.run rfl rfl rfl (E.Runs.move rfl rfl) ?_
  refine E.GL.done ?_
  refine E.QG.code ?_
  refine E.CG.block ?_
  have s2_b5 := b5
  have s2_b6 := b6
  have s2_L := L
  refine E.CG.loop (fun (i : Nat) => [(2, .slice A p.length c), (3, .int .i64 (day : Int)), (4, .int .i64 (h : Int)), (5, .pointer (some ⟨g5, 0, none⟩)), (6, .pointer (some ⟨g6, 0, none⟩)), (10, .int .i64 ((shN V x p day h i : Nat) : Int)), (14, .slice m.A V.rs.length m.a), (15, .int .i64 V.rs.length), (16, .int .i64 i)]) (fun i w' => i ≤ V.rs.length ∧ w'.heap[g5]? = some (.cells #[.int .i64 V.d, .slice m.A V.rs.length m.a, .int .i64 V.h, .slice m.B V.fs.length m.b, .slice m.C V.ds.length m.c] 26 (0, 0)) ∧ w'.heap[g6]? = some (.cells #[.int .i64 x.f0, .int .i64 x.f1, .int .i64 x.f2, .int .i64 x.f3, .int .i64 x.f4, .int .i64 x.f5, .int .i64 x.f6, .int .i64 x.f7] 45 (0, 0)) ∧ Below w.heap.size w w') (fun i => V.rs.length - i) 0 (E.subc rfl (E.subc rfl (E.subc rfl (E.subc rfl (E.subc rfl (E.subc rfl (E.subc rfl (E.subc rfl (E.subc rfl E.subn))))))))) ⟨Nat.zero_le _, b5, b6, L⟩ ?_
  rintro i w2 ⟨hi, b5, b6, L⟩
  refine E.CG.seq ?_
  refine E.CG.list ?_
  refine E.GL.cmp rfl rfl rfl (fun _ h => (E.Runs.lss rfl rfl rfl h)) (fun h17 => ?_) (fun h17 => ?_)
  · obtain ⟨s, hs⟩ := get_ex (show i < V.rs.length by omega)
    obtain ⟨ad, eA, X⟩ := int_at hV.rs hs
    have hlt := slN_lt (V := V) hd (show i < V.rs.length by omega) hh
    obtain ⟨y, hy⟩ := get_ex (show slN V day i h < p.length by omega)
    obtain ⟨ap, eP, XP⟩ := int_at hp hy
    have hshl := shN_le V x p day h i
    refine E.GL.done ?_
    refine E.QG.code ?_
    refine E.CG.seq ?_
    refine E.CG.cond_t rfl ?_
    refine E.CG.skip ?_
    refine E.QG.code ?_
    refine E.CG.seq ?_
    refine E.CG.block ?_
    refine E.CG.seq ?_
    refine E.CG.list ?_
    refine E.GL.run rfl rfl rfl (E.Runs.move rfl rfl) ?_
    refine E.GL.run rfl rfl rfl (E.Runs.indexAddrA (i := i) rfl rfl rfl hu22 z3 o3 (by omega) eA rfl) ?_
    refine E.GL.run rfl rfl rfl (E.Runs.load rfl rfl hu3 (pw_cell_below L X)) ?_
    refine E.GL.run rfl rfl rfl (E.Runs.assign rfl rfl) ?_
    refine E.GL.run rfl rfl rfl (E.Runs.assign rfl rfl) ?_
    refine E.GL.done ?_
    refine E.QG.code ?_
    refine E.CG.seq ?_
    refine E.CG.heldH (none) (by kernel_rfl) fun v4 lD hh => ?_
    replace b5 := blk_below b5 lD
    replace b6 := blk_below b6 lD
    replace L := below_step L lD
    clear lD
    have s_b5 := b5
    have s_b6 := b6
    have s_L := L
    refine E.GH.take (i := 0) rfl (by kernel_rfl) (by kernel_rfl) (by kernel_rfl) (by intro c a d v w h; first | (cases d <;> exact h) | exact nomatch (show _ ∧ _ from h).1) rfl rfl rfl (fun w' hS => (E.Runs.move rfl rfl)) ?_
    refine E.GH.take (i := 1) rfl (by kernel_rfl) (by kernel_rfl) (by kernel_rfl) (by intro c a d v w h; first | (cases d <;> exact h) | exact nomatch (show _ ∧ _ from h).1) rfl rfl rfl (fun w' hS => (E.Runs.fieldAddr rfl rfl hu45 rfl (by assumption) rfl)) ?_
    refine E.GH.take (i := 2) rfl (by kernel_rfl) (by kernel_rfl) (by kernel_rfl) (by intro c a d v w h; first | (cases d <;> exact h) | exact nomatch (show _ ∧ _ from h).1) rfl rfl rfl (fun w' hS => (E.Runs.load rfl rfl hu3 (by first | exact E.keeps hS (E.blkc (by assumption) rfl) (by first | exact E.nen | exact E.nes (by assumption) | exact E.nes (Ne.symm (by assumption))) | exact pw_cell_below (below_step s_L (E.belowG hS)) (by assumption)))) ?_
    refine E.GH.cmp (i := 3) rfl (by kernel_rfl) (by kernel_rfl) (by kernel_rfl) (by intro c a d v w h; first | (cases d <;> exact h) | exact nomatch (show _ ∧ _ from h).1) rfl rfl rfl (fun _ h w' hS => (E.Runs.geq rfl rfl rfl h)) (fun h24 => ?_) (fun h24 => ?_)
    · refine E.GH.take (i := 4) rfl (by kernel_rfl) (by kernel_rfl) (by kernel_rfl) (by intro c a d v w h; first | (cases d <;> exact h) | exact nomatch (show _ ∧ _ from h).1) rfl rfl rfl (fun w' hS => (E.Runs.move rfl rfl)) ?_
      refine E.GH.take (i := 5) rfl (by kernel_rfl) (by kernel_rfl) (by kernel_rfl) (by intro c a d v w h; first | (cases d <;> exact h) | exact nomatch (show _ ∧ _ from h).1) rfl rfl rfl (fun w' hS => (E.Runs.move rfl rfl)) ?_
      refine E.GH.take (i := 6) rfl (by kernel_rfl) (by kernel_rfl) (by kernel_rfl) (by intro c a d v w h; first | (cases d <;> exact h) | exact nomatch (show _ ∧ _ from h).1) rfl rfl rfl (fun w' hS => (E.Runs.loads (cs := [.int .i64 V.d, .slice m.A V.rs.length m.a, .int .i64 V.h, .slice m.B V.fs.length m.b, .slice m.C V.ds.length m.c]) rfl rfl hu26 rfl info26s (blk_cells (blk_grown s_b5 hS E.nen)))) ?_
      refine E.GH.take (i := 7) rfl (by kernel_rfl) (by kernel_rfl) (by kernel_rfl) (by intro c a d v w h; first | (cases d <;> exact h) | exact nomatch (show _ ∧ _ from h).1) rfl rfl rfl (fun w' hS => (E.Runs.move rfl rfl)) ?_
      refine E.GH.take (i := 8) rfl (by kernel_rfl) (by kernel_rfl) (by kernel_rfl) (by intro c a d v w h; first | (cases d <;> exact h) | exact nomatch (show _ ∧ _ from h).1) rfl rfl rfl (fun w' hS => (E.Runs.move rfl rfl)) ?_
      refine E.GH.take (i := 9) rfl (by kernel_rfl) (by kernel_rfl) (by kernel_rfl) (by intro c a d v w h; first | (cases d <;> exact h) | exact nomatch (show _ ∧ _ from h).1) rfl rfl rfl (fun w' hS => (E.Runs.move rfl rfl)) ?_
      refine E.GH.take (i := 13) rfl (by kernel_rfl) (by kernel_rfl) (by kernel_rfl) (by intro c a d v w h; first | (cases d <;> exact h) | exact nomatch (show _ ∧ _ from h).1) rfl rfl rfl (fun w' hS => (E.Runs.fieldAddr rfl rfl hu45 rfl (by assumption) rfl)) ?_
      refine E.GH.take (i := 14) rfl (by kernel_rfl) (by kernel_rfl) (by kernel_rfl) (by intro c a d v w h; first | (cases d <;> exact h) | exact nomatch (show _ ∧ _ from h).1) rfl rfl rfl (fun w' hS => (E.Runs.load rfl rfl hu3 (by first | exact E.keeps hS (E.blkc (by assumption) rfl) (by first | exact E.nen | exact E.nes (by assumption) | exact E.nes (Ne.symm (by assumption))) | exact pw_cell_below (below_step s_L (E.belowG hS)) (by assumption)))) ?_
      refine E.GH.one (i := 10) (by kernel_rfl) rfl ?_
      refine E.GO.st rfl rfl rfl (E.ST.call rfl ent77 (E.evc rfl (E.evc rfl (E.evc rfl (E.evc rfl E.evn)))) ((slot_o V m day i h _ ok (by omega) (by omega) (by omega)).mono ?_))
      rintro e w31 ⟨rfl, l31⟩
      refine ⟨_, rfl, hh.trans (E.gbB l31), ?_⟩
      replace hh := hh.trans (E.gbB l31)
      replace b5 := blk_below b5 l31
      replace b6 := blk_below b6 l31
      replace L := below_step L l31
      refine E.GH.take (i := 11) rfl (by kernel_rfl) (by kernel_rfl) (by kernel_rfl) (by intro c a d v w h; first | (cases d <;> exact h) | exact nomatch (show _ ∧ _ from h).1) rfl rfl rfl (fun w' hS => (E.Runs.indexAddrA (i := slN V day i h) rfl rfl rfl hu22 z3 o3 (by omega) eP rfl)) ?_
      refine E.GH.take (i := 12) rfl (by kernel_rfl) (by kernel_rfl) (by kernel_rfl) (by intro c a d v w h; first | (cases d <;> exact h) | exact nomatch (show _ ∧ _ from h).1) rfl rfl rfl (fun w' hS => (E.Runs.load rfl rfl hu3 (pw_cell_below (below_step s_L (E.belowG hS)) XP))) ?_
      refine E.GH.cmp (i := 15) rfl (by kernel_rfl) (by kernel_rfl) (by kernel_rfl) (by intro c a d v w h; first | (cases d <;> exact h) | exact nomatch (show _ ∧ _ from h).1) rfl rfl rfl (fun _ h w' hS => (E.Runs.eql rfl rfl rfl h)) (fun h36 => ?_) (fun h36 => ?_)
      · refine E.GH.take (i := 16) rfl (by kernel_rfl) (by kernel_rfl) (by kernel_rfl) (by intro c a d v w h; first | (cases d <;> exact h) | exact nomatch (show _ ∧ _ from h).1) rfl rfl rfl (fun w' hS => (E.Runs.pick_t rfl rfl rfl)) ?_
        refine E.GH.done (by kernel_rfl) ?_
        refine E.QG.code ?_
        refine E.CG.cond_t rfl ?_
        refine E.CG.list ?_
        refine E.GL.run rfl rfl rfl (E.Runs.move rfl rfl) ?_
        refine E.GL.run rfl rfl rfl (E.Runs.add rfl rfl rfl (IntWalk.i64_in _ (by omega))) ?_
        refine E.GL.run rfl rfl rfl (E.Runs.assign rfl rfl) ?_
        refine E.GL.done ?_
        refine E.QG.block_normal ?_
        refine E.QG.code ?_
        refine E.CG.list ?_
        refine E.GL.run rfl rfl rfl (E.Runs.add rfl rfl rfl (IntWalk.i64_in _ (by omega))) ?_
        refine E.GL.run rfl rfl rfl (E.Runs.move rfl rfl) ?_
        refine E.GL.done ?_
        exact E.QG.round (i + 1) (E.subc rfl (E.subc rfl (E.subc rfl (E.subc rfl (E.subc rfl (E.subc (by first | (rw [shN_step hs hy, if_pos ⟨h24, h36⟩]; rfl) | (rw [shN_step hs hy, if_neg (fun k => h36 k.2)]; rfl) | (rw [shN_step hs hy, if_neg (fun k => h24 k.1)]; rfl)) (E.subc rfl (E.subc rfl (E.subc rfl E.subn))))))))) ⟨by omega, b5, b6, L⟩ (by omega)
      · refine E.GH.take (i := 16) rfl (by kernel_rfl) (by kernel_rfl) (by kernel_rfl) (by intro c a d v w h; first | (cases d <;> exact h) | exact nomatch (show _ ∧ _ from h).1) rfl rfl rfl (fun w' hS => (E.Runs.pick_t rfl rfl rfl)) ?_
        refine E.GH.done (by kernel_rfl) ?_
        refine E.QG.code ?_
        refine E.CG.cond_f rfl ?_
        refine E.CG.skip ?_
        refine E.QG.block_normal ?_
        refine E.QG.code ?_
        refine E.CG.list ?_
        refine E.GL.run rfl rfl rfl (E.Runs.add rfl rfl rfl (IntWalk.i64_in _ (by omega))) ?_
        refine E.GL.run rfl rfl rfl (E.Runs.move rfl rfl) ?_
        refine E.GL.done ?_
        exact E.QG.round (i + 1) (E.subc rfl (E.subc rfl (E.subc rfl (E.subc rfl (E.subc rfl (E.subc (by first | (rw [shN_step hs hy, if_pos ⟨h24, h36⟩]; rfl) | (rw [shN_step hs hy, if_neg (fun k => h36 k.2)]; rfl) | (rw [shN_step hs hy, if_neg (fun k => h24 k.1)]; rfl)) (E.subc rfl (E.subc rfl (E.subc rfl E.subn))))))))) ⟨by omega, b5, b6, L⟩ (by omega)
    · refine E.GH.take (i := 4) rfl (by kernel_rfl) (by kernel_rfl) (by kernel_rfl) (by intro c a d v w h; first | (cases d <;> exact h) | exact nomatch (show _ ∧ _ from h).1) rfl rfl rfl (fun w' hS => (E.Runs.move rfl rfl)) ?_
      refine E.GH.pass (i := 5) rfl (by kernel_rfl) (by kernel_rfl) (by kernel_rfl) (by intro c a d v w h; first | (cases d <;> exact h) | exact nomatch (show _ ∧ _ from h).1) rfl rfl rfl ?_
      refine E.GH.pass (i := 6) rfl (by kernel_rfl) (by kernel_rfl) (by kernel_rfl) (by intro c a d v w h; first | (cases d <;> exact h) | exact nomatch (show _ ∧ _ from h).1) rfl rfl rfl ?_
      refine E.GH.pass (i := 7) rfl (by kernel_rfl) (by kernel_rfl) (by kernel_rfl) (by intro c a d v w h; first | (cases d <;> exact h) | exact nomatch (show _ ∧ _ from h).1) rfl rfl rfl ?_
      refine E.GH.pass (i := 8) rfl (by kernel_rfl) (by kernel_rfl) (by kernel_rfl) (by intro c a d v w h; first | (cases d <;> exact h) | exact nomatch (show _ ∧ _ from h).1) rfl rfl rfl ?_
      refine E.GH.pass (i := 9) rfl (by kernel_rfl) (by kernel_rfl) (by kernel_rfl) (by intro c a d v w h; first | (cases d <;> exact h) | exact nomatch (show _ ∧ _ from h).1) rfl rfl rfl ?_
      refine E.GH.pass (i := 10) rfl (by kernel_rfl) (by kernel_rfl) (by kernel_rfl) (by intro c a d v w h; first | (cases d <;> exact h) | exact nomatch (show _ ∧ _ from h).1) rfl rfl rfl ?_
      refine E.GH.pass (i := 11) rfl (by kernel_rfl) (by kernel_rfl) (by kernel_rfl) (by intro c a d v w h; first | (cases d <;> exact h) | exact nomatch (show _ ∧ _ from h).1) rfl rfl rfl ?_
      refine E.GH.pass (i := 12) rfl (by kernel_rfl) (by kernel_rfl) (by kernel_rfl) (by intro c a d v w h; first | (cases d <;> exact h) | exact nomatch (show _ ∧ _ from h).1) rfl rfl rfl ?_
      refine E.GH.pass (i := 13) rfl (by kernel_rfl) (by kernel_rfl) (by kernel_rfl) (by intro c a d v w h; first | (cases d <;> exact h) | exact nomatch (show _ ∧ _ from h).1) rfl rfl rfl ?_
      refine E.GH.pass (i := 14) rfl (by kernel_rfl) (by kernel_rfl) (by kernel_rfl) (by intro c a d v w h; first | (cases d <;> exact h) | exact nomatch (show _ ∧ _ from h).1) rfl rfl rfl ?_
      refine E.GH.pass (i := 15) rfl (by kernel_rfl) (by kernel_rfl) (by kernel_rfl) (by intro c a d v w h; first | (cases d <;> exact h) | exact nomatch (show _ ∧ _ from h).1) rfl rfl rfl ?_
      refine E.GH.take (i := 16) rfl (by kernel_rfl) (by kernel_rfl) (by kernel_rfl) (by intro c a d v w h; first | (cases d <;> exact h) | exact nomatch (show _ ∧ _ from h).1) rfl rfl rfl (fun w' hS => (E.Runs.pick_f rfl rfl rfl)) ?_
      refine E.GH.done (by kernel_rfl) ?_
      refine E.QG.code ?_
      refine E.CG.cond_f rfl ?_
      refine E.CG.skip ?_
      refine E.QG.block_normal ?_
      refine E.QG.code ?_
      refine E.CG.list ?_
      refine E.GL.run rfl rfl rfl (E.Runs.add rfl rfl rfl (IntWalk.i64_in _ (by omega))) ?_
      refine E.GL.run rfl rfl rfl (E.Runs.move rfl rfl) ?_
      refine E.GL.done ?_
      exact E.QG.round (i + 1) (E.subc rfl (E.subc rfl (E.subc rfl (E.subc rfl (E.subc rfl (E.subc (by first | (rw [shN_step hs hy, if_pos ⟨h24, h36⟩]; rfl) | (rw [shN_step hs hy, if_neg (fun k => h36 k.2)]; rfl) | (rw [shN_step hs hy, if_neg (fun k => h24 k.1)]; rfl)) (E.subc rfl (E.subc rfl (E.subc rfl E.subn))))))))) ⟨by omega, b5, b6, L⟩ (by omega)
  · obtain rfl : i = V.rs.length := by omega
    refine E.GL.done ?_
    refine E.QG.code ?_
    refine E.CG.seq ?_
    refine E.CG.cond_f rfl ?_
    refine E.CG.exit ?_
    refine E.QG.pass_exit ?_
    refine E.QG.pass_exit ?_
    refine E.QG.block_here ?_
    refine E.QG.code ?_
    refine E.CG.seq ?_
    refine E.CG.list ?_
    refine E.GL.run rfl rfl rfl (E.Runs.move rfl rfl) ?_
    refine E.GL.run rfl rfl rfl (E.Runs.assign rfl rfl) ?_
    refine E.GL.done ?_
    refine E.QG.code ?_
    refine E.CG.ret ?_
    exact E.QG.result rfl rfl ⟨rfl, L⟩

set_option maxRecDepth 100000 in
set_option maxHeartbeats 8000000 in

theorem clean_o (V : Wk) (m : Wa) (x : S45) (p : List Int) (A : Option Addr) (c : Nat) (w : World) (ok : Shp V) (hV : WM w V m) (hx : DOk V x) (hp : Kd.C kI w A p.length p) (hpl : p.length = Sl V) (day : Nat) (hd : day < V.d.toNat) (r : Bool) (hb : r = true ↔ Cln V x p day) :
    Calls Try.prog 66 #[wv V m, .agg #[.int .i64 x.f0, .int .i64 x.f1, .int .i64 x.f2, .int .i64 x.f3, .int .i64 x.f4, .int .i64 x.f5, .int .i64 x.f6, .int .i64 x.f7], .slice A p.length c, .int .i64 (day : Int)] w fun e w' => e = .returned (.bool r) ∧ Below w.heap.size w w' := by
  have hu3 := Try.underlying3
  have hu22 := Try.underlying22
  have hu26 := Try.underlying26
  have hu45 := Try.underlying45
  obtain ⟨z3, o3⟩ := info_some info3s (by decide)
  obtain ⟨z22, o22⟩ := info_some info22s (by decide)
  obtain ⟨⟨n2, n3, n4, n5, nd, nh⟩, m2, m3, m4, m5⟩ := hx.nat ok
  obtain ⟨_, hsl8, _⟩ := slots_nat ok
  have okd := ok.d
  have okh := ok.h
  have okr := ok.r
  refine E.enter (N := 44) Try.func66 rfl Try.ntmps66 (args := [wv V m, .agg #[.int .i64 x.f0, .int .i64 x.f1, .int .i64 x.f2, .int .i64 x.f3, .int .i64 x.f4, .int .i64 x.f5, .int .i64 x.f6, .int .i64 x.f7], .slice A p.length c, .int .i64 (day : Int)]) (by simp) ?_
  have L := Below.refl w.heap.size w
  refine E.CG.seq ?_
  refine E.CG.list ?_
  refine E.GL.st rfl rfl rfl (E.ST.box rfl rfl fun g4 w4 e4 b4 l4 => ?_)
  have h4_L : w.heap.size ≤ g4 := by rw [e4]; exact L.size
  replace L := below_step L l4
  refine E.GL.st rfl rfl rfl (E.ST.box rfl rfl fun g5 w5 e5 b5 l5 => ?_)
  have h5_L : w.heap.size ≤ g5 := by rw [e5]; exact L.size
  have n5_b4 : g4 ≠ g5 := by have := blk_lt b4; omega
  replace b4 := blk_below b4 l5
  replace L := below_step L l5
  refine E.GL.run rfl rfl rfl (E.Runs.assign rfl rfl) ?_
  refine E.GL.done ?_
  refine E.QG.code ?_
  refine E.CG.scope ?_
  refine E.CG.seq ?_
  refine E.CG.label ?_
  refine E.QG.code ?_
  refine E.CG.seq ?_
  refine E.CG.seq ?_
  refine E.CG.list ?_
  refine E.GL.run rfl rfl rfl (E.Runs.fieldAddr rfl rfl hu26 rfl (by assumption) rfl) ?_
  refine E.GL.run rfl rfl rfl (E.Runs.load1 rfl rfl hu22 rfl (by first | assumption | exact E.blkc (by assumption) rfl | exact pw_cell_below L (by assumption))) ?_
  refine E.GL.run rfl rfl rfl (E.Runs.len rfl rfl hu22) ?_
  refine E.GL.run rfl rfl rfl (E.Runs.move rfl rfl) ?_
  refine E.GL.done ?_
  refine E.QG.code ?_
  refine E.CG.block ?_
  have s2_b4 := b4
  have s2_b5 := b5
  have s2_L := L
  refine E.CG.loop (fun (i : Nat) => [(2, .slice A p.length c), (3, .int .i64 (day : Int)), (4, .pointer (some ⟨g4, 0, none⟩)), (5, .pointer (some ⟨g5, 0, none⟩)), (13, .slice m.A V.rs.length m.a), (14, .int .i64 V.rs.length), (15, .int .i64 i)]) (fun i w' => i ≤ V.rs.length ∧ (∀ q, q < i → ¬ (x.f6 ≤ V.rs.getD q 0 ∧ ∀ k, k < x.f5.toNat - x.f4.toNat + 1 → p.getD (slN V day q (x.f4.toNat + k)) 0 = x.f1)) ∧ w'.heap[g4]? = some (.cells #[.int .i64 V.d, .slice m.A V.rs.length m.a, .int .i64 V.h, .slice m.B V.fs.length m.b, .slice m.C V.ds.length m.c] 26 (0, 0)) ∧ w'.heap[g5]? = some (.cells #[.int .i64 x.f0, .int .i64 x.f1, .int .i64 x.f2, .int .i64 x.f3, .int .i64 x.f4, .int .i64 x.f5, .int .i64 x.f6, .int .i64 x.f7] 45 (0, 0)) ∧ Below w.heap.size w w') (fun i => V.rs.length - i) 0 (E.subc rfl (E.subc rfl (E.subc rfl (E.subc rfl (E.subc rfl (E.subc rfl (E.subc rfl E.subn))))))) ⟨Nat.zero_le _, fun q hq => by omega, b4, b5, L⟩ ?_
  rintro i w2 ⟨hi, hno, b4, b5, L⟩
  refine E.CG.seq ?_
  refine E.CG.list ?_
  refine E.GL.cmp rfl rfl rfl (fun _ h => (E.Runs.lss rfl rfl rfl h)) (fun h16 => ?_) (fun h16 => ?_)
  · obtain ⟨s, hs⟩ := get_ex (show i < V.rs.length by omega)
    obtain ⟨ad, eA, X⟩ := int_at hV.rs hs
    have hsD := getD_of hs
    refine E.GL.done ?_
    refine E.QG.code ?_
    refine E.CG.seq ?_
    refine E.CG.cond_t rfl ?_
    refine E.CG.skip ?_
    refine E.QG.code ?_
    refine E.CG.seq ?_
    refine E.CG.block ?_
    refine E.CG.seq ?_
    refine E.CG.list ?_
    refine E.GL.run rfl rfl rfl (E.Runs.move rfl rfl) ?_
    refine E.GL.run rfl rfl rfl (E.Runs.indexAddrA (i := i) rfl rfl rfl hu22 z3 o3 (by omega) eA rfl) ?_
    refine E.GL.run rfl rfl rfl (E.Runs.load rfl rfl hu3 (pw_cell_below L X)) ?_
    refine E.GL.run rfl rfl rfl (E.Runs.assign rfl rfl) ?_
    refine E.GL.run rfl rfl rfl (E.Runs.assign rfl rfl) ?_
    refine E.GL.done ?_
    refine E.QG.code ?_
    refine E.CG.seq ?_
    refine E.CG.seq ?_
    refine E.CG.list ?_
    refine E.GL.run rfl rfl rfl (E.Runs.move rfl rfl) ?_
    refine E.GL.run rfl rfl rfl (E.Runs.fieldAddr rfl rfl hu45 rfl (by assumption) rfl) ?_
    refine E.GL.run rfl rfl rfl (E.Runs.load rfl rfl hu3 (by first | assumption | exact E.blkc (by assumption) rfl | exact pw_cell_below L (by assumption))) ?_
    refine E.GL.cmp rfl rfl rfl (fun _ h => (E.Runs.lss rfl rfl rfl h)) (fun h23 => ?_) (fun h23 => ?_)
    · refine E.GL.done ?_
      refine E.QG.code ?_
      refine E.CG.cond_t rfl ?_
      refine E.CG.exit ?_
      refine E.QG.pass_exit ?_
      refine E.QG.block_here ?_
      refine E.QG.code ?_
      refine E.CG.list ?_
      refine E.GL.run rfl rfl rfl (E.Runs.add rfl rfl rfl (IntWalk.i64_in _ (by omega))) ?_
      refine E.GL.run rfl rfl rfl (E.Runs.move rfl rfl) ?_
      refine E.GL.done ?_
      exact E.QG.round (i + 1) (E.subc rfl (E.subc rfl (E.subc rfl (E.subc rfl (E.subc rfl (E.subc rfl (E.subc rfl E.subn))))))) ⟨by omega, fun q hq => by
        by_cases e : q = i
        · subst e
          intro hk
          first | exact absurd hk.1 (by omega) | exact h42 (by rw [← hyD]; exact hk.2 k (by omega)) | fail
        · exact hno q (by omega), b4, b5, L⟩ (by omega)
    · refine E.GL.done ?_
      refine E.QG.code ?_
      refine E.CG.cond_f rfl ?_
      refine E.CG.skip ?_
      refine E.QG.code ?_
      refine E.CG.seq ?_
      refine E.CG.seq ?_
      refine E.CG.list ?_
      refine E.GL.run rfl rfl rfl (E.Runs.fieldAddr rfl rfl hu45 rfl (by assumption) rfl) ?_
      refine E.GL.run rfl rfl rfl (E.Runs.load rfl rfl hu3 (by first | assumption | exact E.blkc (by assumption) rfl | exact pw_cell_below L (by assumption))) ?_
      refine E.GL.run rfl rfl rfl (E.Runs.assign rfl rfl) ?_
      refine E.GL.done ?_
      refine E.QG.code ?_
      refine E.CG.block ?_
      have s6_b4 := b4
      have s6_b5 := b5
      have s6_L := L
      refine E.CG.loop (fun (k : Nat) => [(2, .slice A p.length c), (3, .int .i64 (day : Int)), (4, .pointer (some ⟨g4, 0, none⟩)), (5, .pointer (some ⟨g5, 0, none⟩)), (9, .int .i64 (i : Int)), (11, .int .i64 ((x.f4.toNat + k : Nat) : Int)), (13, .slice m.A V.rs.length m.a), (14, .int .i64 V.rs.length), (15, .int .i64 i)]) (fun k w' => k ≤ x.f5.toNat - x.f4.toNat + 1 ∧ (∀ q, q < k → p.getD (slN V day i (x.f4.toNat + q)) 0 = x.f1) ∧ w'.heap[g4]? = some (.cells #[.int .i64 V.d, .slice m.A V.rs.length m.a, .int .i64 V.h, .slice m.B V.fs.length m.b, .slice m.C V.ds.length m.c] 26 (0, 0)) ∧ w'.heap[g5]? = some (.cells #[.int .i64 x.f0, .int .i64 x.f1, .int .i64 x.f2, .int .i64 x.f3, .int .i64 x.f4, .int .i64 x.f5, .int .i64 x.f6, .int .i64 x.f7] 45 (0, 0)) ∧ Below w.heap.size w w') (fun k => x.f5.toNat - x.f4.toNat + 1 - k) 0 (E.subc rfl (E.subc rfl (E.subc rfl (E.subc rfl (E.subc rfl (E.subc (congrArg (fun t => some (Value.int .i64 t)) (show x.f4 = ((x.f4.toNat + 0 : Nat) : Int) by omega)) (E.subc rfl (E.subc rfl (E.subc rfl E.subn))))))))) ⟨Nat.zero_le _, fun q hq => by omega, b4, b5, L⟩ ?_
      rintro k w6 ⟨hk, hall, b4, b5, L⟩
      refine E.CG.seq ?_
      refine E.CG.seq ?_
      refine E.CG.list ?_
      refine E.GL.run rfl rfl rfl (E.Runs.move rfl rfl) ?_
      refine E.GL.run rfl rfl rfl (E.Runs.fieldAddr rfl rfl hu45 rfl (by assumption) rfl) ?_
      refine E.GL.run rfl rfl rfl (E.Runs.load rfl rfl hu3 (by first | assumption | exact E.blkc (by assumption) rfl | exact pw_cell_below L (by assumption))) ?_
      refine E.GL.cmp rfl rfl rfl (fun _ h => (E.Runs.leq rfl rfl rfl h)) (fun h29 => ?_) (fun h29 => ?_)
      · have hlt := slN_lt (V := V) (h := x.f4.toNat + k) hd (show i < V.rs.length by omega) (by omega)
        obtain ⟨y, hy⟩ := get_ex (show slN V day i (x.f4.toNat + k) < p.length by omega)
        obtain ⟨ap, eP, XP⟩ := int_at hp hy
        have hyD := getD_of hy
        refine E.GL.done ?_
        refine E.QG.code ?_
        refine E.CG.cond_t rfl ?_
        refine E.CG.skip ?_
        refine E.QG.code ?_
        refine E.CG.seq ?_
        refine E.CG.block ?_
        refine E.CG.seq ?_
        refine E.CG.heldH (none) (by kernel_rfl) fun v8 lD hh => ?_
        replace b4 := blk_below b4 lD
        replace b5 := blk_below b5 lD
        replace L := below_step L lD
        clear lD
        have s_b4 := b4
        have s_b5 := b5
        have s_L := L
        refine E.GH.take (i := 0) rfl (by kernel_rfl) (by kernel_rfl) (by kernel_rfl) (by intro c a d v w h; first | (cases d <;> exact h) | exact nomatch (show _ ∧ _ from h).1) rfl rfl rfl (fun w' hS => (E.Runs.move rfl rfl)) ?_
        refine E.GH.take (i := 1) rfl (by kernel_rfl) (by kernel_rfl) (by kernel_rfl) (by intro c a d v w h; first | (cases d <;> exact h) | exact nomatch (show _ ∧ _ from h).1) rfl rfl rfl (fun w' hS => (E.Runs.loads (cs := [.int .i64 V.d, .slice m.A V.rs.length m.a, .int .i64 V.h, .slice m.B V.fs.length m.b, .slice m.C V.ds.length m.c]) rfl rfl hu26 rfl info26s (blk_cells (blk_grown s_b4 hS E.nen)))) ?_
        refine E.GH.take (i := 2) rfl (by kernel_rfl) (by kernel_rfl) (by kernel_rfl) (by intro c a d v w h; first | (cases d <;> exact h) | exact nomatch (show _ ∧ _ from h).1) rfl rfl rfl (fun w' hS => (E.Runs.move rfl rfl)) ?_
        refine E.GH.take (i := 3) rfl (by kernel_rfl) (by kernel_rfl) (by kernel_rfl) (by intro c a d v w h; first | (cases d <;> exact h) | exact nomatch (show _ ∧ _ from h).1) rfl rfl rfl (fun w' hS => (E.Runs.move rfl rfl)) ?_
        refine E.GH.take (i := 4) rfl (by kernel_rfl) (by kernel_rfl) (by kernel_rfl) (by intro c a d v w h; first | (cases d <;> exact h) | exact nomatch (show _ ∧ _ from h).1) rfl rfl rfl (fun w' hS => (E.Runs.move rfl rfl)) ?_
        refine E.GH.take (i := 8) rfl (by kernel_rfl) (by kernel_rfl) (by kernel_rfl) (by intro c a d v w h; first | (cases d <;> exact h) | exact nomatch (show _ ∧ _ from h).1) rfl rfl rfl (fun w' hS => (E.Runs.fieldAddr rfl rfl hu45 rfl (by assumption) rfl)) ?_
        refine E.GH.take (i := 9) rfl (by kernel_rfl) (by kernel_rfl) (by kernel_rfl) (by intro c a d v w h; first | (cases d <;> exact h) | exact nomatch (show _ ∧ _ from h).1) rfl rfl rfl (fun w' hS => (E.Runs.load rfl rfl hu3 (by first | exact E.keeps hS (E.blkc (by assumption) rfl) (by first | exact E.nen | exact E.nes (by assumption) | exact E.nes (Ne.symm (by assumption))) | exact pw_cell_below (below_step s_L (E.belowG hS)) (by assumption)))) ?_
        refine E.GH.one (i := 5) (by kernel_rfl) rfl ?_
        refine E.GO.st rfl rfl rfl (E.ST.call rfl ent77 (E.evc rfl (E.evc rfl (E.evc rfl (E.evc rfl E.evn)))) ((slot_o V m day i (x.f4.toNat + k) _ ok (by omega) (by omega) (by omega)).mono ?_))
        rintro e w37 ⟨rfl, l37⟩
        refine ⟨_, rfl, hh.trans (E.gbB l37), ?_⟩
        replace hh := hh.trans (E.gbB l37)
        replace b4 := blk_below b4 l37
        replace b5 := blk_below b5 l37
        replace L := below_step L l37
        refine E.GH.take (i := 6) rfl (by kernel_rfl) (by kernel_rfl) (by kernel_rfl) (by intro c a d v w h; first | (cases d <;> exact h) | exact nomatch (show _ ∧ _ from h).1) rfl rfl rfl (fun w' hS => (E.Runs.indexAddrA (i := slN V day i (x.f4.toNat + k)) rfl rfl rfl hu22 z3 o3 (by omega) eP rfl)) ?_
        refine E.GH.take (i := 7) rfl (by kernel_rfl) (by kernel_rfl) (by kernel_rfl) (by intro c a d v w h; first | (cases d <;> exact h) | exact nomatch (show _ ∧ _ from h).1) rfl rfl rfl (fun w' hS => (E.Runs.load rfl rfl hu3 (pw_cell_below (below_step s_L (E.belowG hS)) XP))) ?_
        refine E.GH.cmpn (i := 10) rfl (by kernel_rfl) (by kernel_rfl) (by kernel_rfl) (by intro c a d v w h; first | (cases d <;> exact h) | exact nomatch (show _ ∧ _ from h).1) rfl rfl rfl (fun _ h w' hS => (E.Runs.neq rfl rfl rfl h)) (fun h42 => ?_) (fun h42 => ?_)
        · refine E.GH.done (by kernel_rfl) ?_
          refine E.QG.code ?_
          refine E.CG.cond_t rfl ?_
          refine E.CG.exit ?_
          refine E.QG.block_out rfl ?_
          refine E.QG.pass_exit ?_
          refine E.QG.pass_exit ?_
          refine E.QG.block_out rfl ?_
          refine E.QG.pass_exit ?_
          refine E.QG.block_here ?_
          refine E.QG.code ?_
          refine E.CG.list ?_
          refine E.GL.run rfl rfl rfl (E.Runs.add rfl rfl rfl (IntWalk.i64_in _ (by omega))) ?_
          refine E.GL.run rfl rfl rfl (E.Runs.move rfl rfl) ?_
          refine E.GL.done ?_
          exact E.QG.round (i + 1) (E.subc rfl (E.subc rfl (E.subc rfl (E.subc rfl (E.subc rfl (E.subc rfl (E.subc rfl E.subn))))))) ⟨by omega, fun q hq => by
            by_cases e : q = i
            · subst e
              intro hk
              first | exact absurd hk.1 (by omega) | exact h42 (by rw [← hyD]; exact hk.2 k (by omega)) | fail
            · exact hno q (by omega), b4, b5, L⟩ (by omega)
        · refine E.GH.done (by kernel_rfl) ?_
          refine E.QG.code ?_
          refine E.CG.cond_f rfl ?_
          refine E.CG.skip ?_
          refine E.QG.block_normal ?_
          refine E.QG.code ?_
          refine E.CG.list ?_
          refine E.GL.run rfl rfl rfl (E.Runs.move rfl rfl) ?_
          refine E.GL.run rfl rfl rfl (E.Runs.add rfl rfl rfl (IntWalk.i64_in _ (by omega))) ?_
          refine E.GL.run rfl rfl rfl (E.Runs.assign rfl rfl) ?_
          refine E.GL.done ?_
          exact E.QG.round (k + 1) (E.subc rfl (E.subc rfl (E.subc rfl (E.subc rfl (E.subc rfl (E.subc rfl (E.subc rfl (E.subc rfl (E.subc rfl E.subn))))))))) ⟨by omega, fun q hq => by
            by_cases e : q = k
            · subst e
              rw [hyD]
              first | exact h42 | exact Decidable.not_not.mp h42 | omega
            · exact hall q (by omega), b4, b5, L⟩ (by omega)
      · refine E.GL.done ?_
        refine E.QG.code ?_
        refine E.CG.cond_f rfl ?_
        refine E.CG.exit ?_
        refine E.QG.pass_exit ?_
        refine E.QG.pass_exit ?_
        refine E.QG.block_here ?_
        refine E.QG.code ?_
        refine E.CG.seq ?_
        refine E.CG.list ?_
        refine E.GL.run rfl rfl rfl (E.Runs.assign rfl rfl) ?_
        refine E.GL.done ?_
        refine E.QG.code ?_
        refine E.CG.ret ?_
        refine E.QG.block_ret ?_
        refine E.QG.pass_ret ?_
        refine E.QG.pass_ret ?_
        refine E.QG.block_ret ?_
        refine E.QG.pass_ret ?_
        refine E.QG.scope_ret ?_
        exact E.QG.result rfl rfl ⟨by rw [hb.mpr ⟨i, by omega, by omega, fun k' hk' => hall k' (by omega)⟩], L⟩
  · refine E.GL.done ?_
    refine E.QG.code ?_
    refine E.CG.seq ?_
    refine E.CG.cond_f rfl ?_
    refine E.CG.exit ?_
    refine E.QG.pass_exit ?_
    refine E.QG.pass_exit ?_
    refine E.QG.block_here ?_
    refine E.QG.code ?_
    refine E.CG.seq ?_
    refine E.CG.list ?_
    refine E.GL.run rfl rfl rfl (E.Runs.assign rfl rfl) ?_
    refine E.GL.done ?_
    refine E.QG.code ?_
    refine E.CG.ret ?_
    refine E.QG.scope_ret ?_
    exact E.QG.result rfl rfl ⟨by rw [bool_no hb (fun ⟨q, hq, k1, k2⟩ => hno q (by omega) ⟨k1, k2⟩)], L⟩

end Go.Proofs.Ytdiambcjghlffaa.T
namespace Go.Proofs.Ytdiambcjghlffaa.T
open Go.RowKit Go.Proofs.YtdiambcjghlffaaW.PrintWords Go.Proofs.YtdiambcjghlffaaW.PrintMore
open Go.Proofs.Ytdiambcjghlffaa.P
set_option linter.unusedVariables false
set_option linter.unusedSimpArgs false

theorem tmod_nat {a b : Int} (ha : 0 ≤ a) (hb : 0 ≤ b) : a.tmod b = ((a.toNat % b.toNat : Nat) : Int) := by
  rw [Int.natCast_emod, Int.toNat_of_nonneg ha, Int.toNat_of_nonneg hb, Int.tmod_eq_emod_of_nonneg ha]
theorem tdiv_nat {a b : Int} (ha : 0 ≤ a) (hb : 0 ≤ b) : a.tdiv b = ((a.toNat / b.toNat : Nat) : Int) := by
  rw [Int.natCast_ediv, Int.toNat_of_nonneg ha, Int.toNat_of_nonneg hb, Int.tdiv_eq_ediv_of_nonneg ha]
/-- What a slot takes, by its film, its crowd and its screen. -/
theorem tk_dark {V : Wk} {p : List Int} {i : Nat} (h : p[i]? = some (-1)) : tkN V p i = 0 := by
  unfold tkN
  rw [getD_of h]
  rfl
theorem tk_film {V : Wk} {p : List Int} {i : Nat} {y : Int} {f : S49} {a b : Int} (h : p[i]? = some y) (hy : y ≠ -1) (hf : V.fs[y.toNat]? = some f) (ha : f.f1[i % V.h.toNat]? = some a) (hb : V.rs[i / V.h.toNat % V.rs.length]? = some b) : tkN V p i = f.f0 * mn a b := by
  unfold tkN
  rw [getD_of h, if_neg hy, List.getD_eq_getElem?_getD (l := V.fs), hf, getD_of hb]
  show (f.f0 : Int) * mn (f.f1.getD _ 0) b = _
  rw [getD_of ha]
theorem tk_small {V : Wk} (ok : Shp V) {p : List Int} (hp : IsP V p) {i : Nat} (hi : i < p.length) : 0 ≤ tkN V p i ∧ tkN V p i ≤ 99900 := by
  obtain ⟨y, hy⟩ := get_ex hi
  by_cases e : y = -1
  · subst e
    rw [tk_dark hy]
    omega
  · have hyr := hp.2 y (mem_of hy)
    obtain ⟨f, hf⟩ := get_ex (show y.toNat < V.fs.length by omega)
    obtain ⟨⟨p0, p1⟩, hl, hc⟩ := ok.fs f (mem_of hf)
    have oh := ok.h
    have or := ok.r
    obtain ⟨a, ha⟩ := get_ex (show i % V.h.toNat < f.f1.length by have := Nat.mod_lt i (show V.h.toNat > 0 by omega); omega)
    obtain ⟨b, hb⟩ := get_ex (show i / V.h.toNat % V.rs.length < V.rs.length from Nat.mod_lt _ (by omega))
    rw [tk_film hy e hf ha hb]
    have h1 := hc a (mem_of ha)
    have h2 := ok.rs b (mem_of hb)
    have := mul_small (x := f.f0) (y := mn a b) (a := 100) (b := 999) (by omega) (by omega) (by unfold mn; split <;> omega) (by unfold mn; split <;> omega)
    omega
theorem tkS_small {V : Wk} (ok : Shp V) {p : List Int} (hp : IsP V p) : ∀ {i : Nat}, i ≤ p.length → 0 ≤ tkS V p i ∧ tkS V p i ≤ i * 99900
  | 0, _ => by simp [tkS]
  | i + 1, h => by
    have h1 := tkS_small ok hp (i := i) (by omega)
    have h2 := tk_small ok hp (i := i) (by omega)
    rw [tkS]
    push_cast
    omega
set_option maxRecDepth 100000 in
set_option maxHeartbeats 8000000 in

theorem keep1 {V : Wk} {x : S45} {p : List Int} (h : x.f0 = 1) : Keep V x p ↔ x.f7 ≤ dsN V x p (nD x) := by unfold Keep; rw [if_pos h]
theorem keep2 {V : Wk} {x : S45} {p : List Int} (h : x.f0 = 2) : Keep V x p ↔ (dsN V x p (nD x) : Int) ≤ x.f7 := by unfold Keep; rw [if_neg (by omega), if_pos h]
theorem keep3 {V : Wk} {x : S45} {p : List Int} (h : x.f0 = 3) : Keep V x p ↔ ∀ i, i < nD x → Cln V x p (x.f2.toNat + i) := by unfold Keep; rw [if_neg (by omega), if_neg (by omega), if_pos h]
theorem keep4 {V : Wk} {x : S45} {p : List Int} (h : x.f0 = 4) : Keep V x p ↔ ∀ i, i < nD x → ∀ k, k < nH x → sh V x p (x.f2.toNat + i) (x.f4.toNat + k) ≤ 1 := by unfold Keep; rw [if_neg (by omega), if_neg (by omega), if_neg (by omega), if_pos h]
theorem keep5 {V : Wk} {x : S45} {p : List Int} (h : x.f0 = 5) : Keep V x p ↔ ∀ i, i < nD x → ∀ k, k < nH x → 1 ≤ sh V x p (x.f2.toNat + i) (x.f4.toNat + k) := by unfold Keep; rw [if_neg (by omega), if_neg (by omega), if_neg (by omega), if_neg (by omega), if_pos h]
theorem keep0 {V : Wk} {x : S45} {p : List Int} (h1 : ¬ x.f0 = 1) (h2 : ¬ x.f0 = 2) (h4 : ¬ x.f0 = 4) (h5 : ¬ x.f0 = 5) (k : x.f0 = 3 → ∀ i, i < nD x → Cln V x p (x.f2.toNat + i)) : Keep V x p := by
  unfold Keep
  rw [if_neg h1, if_neg h2]
  split
  · next h => exact k h
  · first | trivial | (rw [if_neg h4, if_neg h5]; trivial)
theorem acc_in {P : Prop} {Q : Nat → Prop} {k : Nat} {a b : Prop} (h : a ↔ P ∧ ∀ q, q < k → Q q) (hb : b ↔ Q k) : (a ∧ b) ↔ P ∧ ∀ q, q < k + 1 → Q q := by
  constructor
  · rintro ⟨h1, h2⟩
    obtain ⟨h3, h4⟩ := h.mp h1
    refine ⟨h3, fun q hq => ?_⟩
    by_cases e : q = k
    · rw [e]; exact hb.mp h2
    · exact h4 q (by omega)
  · rintro ⟨h1, h2⟩
    exact ⟨h.mpr ⟨h1, fun q hq => h2 q (by omega)⟩, hb.mpr (h2 k (by omega))⟩
theorem acc_out {Q : Nat → Nat → Prop} {n K : Nat} {a : Prop} (h : a ↔ (∀ i, i < n → ∀ q, q < K → Q i q) ∧ ∀ q, q < K → Q n q) : a ↔ ∀ i, i < n + 1 → ∀ q, q < K → Q i q := by
  rw [h]
  constructor
  · rintro ⟨h1, h2⟩ i hi
    by_cases e : i = n
    · rw [e]; exact h2
    · exact h1 i (by omega)
  · intro h1
    exact ⟨fun i hi => h1 i (by omega), h1 n (by omega)⟩
set_option maxRecDepth 100000 in
set_option maxHeartbeats 8000000 in

theorem kept_o (V : Wk) (m : Wa) (x : S45) (p : List Int) (A : Option Addr) (c : Nat) (w : World) (ok : Shp V) (hV : WM w V m) (hx : DOk V x) (hp : Kd.C kI w A p.length p) (hpl : p.length = Sl V) (r : Bool) (hb : r = true ↔ Keep V x p) :
    Calls Try.prog 49 #[wv V m, .agg #[.int .i64 x.f0, .int .i64 x.f1, .int .i64 x.f2, .int .i64 x.f3, .int .i64 x.f4, .int .i64 x.f5, .int .i64 x.f6, .int .i64 x.f7], .slice A p.length c] w fun e w' => e = .returned (.bool r) ∧ Below w.heap.size w w' := by
  have hu3 := Try.underlying3
  have hu22 := Try.underlying22
  have hu26 := Try.underlying26
  have hu45 := Try.underlying45
  obtain ⟨z3, o3⟩ := info_some info3s (by decide)
  obtain ⟨z22, o22⟩ := info_some info22s (by decide)
  obtain ⟨⟨n2, n3, n4, n5, nd, nh⟩, m2, m3, m4, m5⟩ := hx.nat ok
  obtain ⟨_, hsl8, hsl1⟩ := slots_nat ok
  have okd := ok.d
  have okh := ok.h
  have okr := ok.r
  refine E.enter (N := 79) Try.func49 rfl Try.ntmps49 (args := [wv V m, .agg #[.int .i64 x.f0, .int .i64 x.f1, .int .i64 x.f2, .int .i64 x.f3, .int .i64 x.f4, .int .i64 x.f5, .int .i64 x.f6, .int .i64 x.f7], .slice A p.length c]) (by simp) ?_
  have L := Below.refl w.heap.size w
  refine E.CG.seq ?_
  refine E.CG.list ?_
  refine E.GL.st rfl rfl rfl (E.ST.box rfl rfl fun g3 w3 e3 b3 l3 => ?_)
  have h3_L : w.heap.size ≤ g3 := by rw [e3]; exact L.size
  replace L := below_step L l3
  refine E.GL.st rfl rfl rfl (E.ST.box rfl rfl fun g4 w4 e4 b4 l4 => ?_)
  have h4_L : w.heap.size ≤ g4 := by rw [e4]; exact L.size
  have n4_b3 : g3 ≠ g4 := by have := blk_lt b3; omega
  replace b3 := blk_below b3 l4
  replace L := below_step L l4
  refine E.GL.run rfl rfl rfl (E.Runs.assign rfl rfl) ?_
  refine E.GL.done ?_
  refine E.QG.code ?_
  refine E.CG.seq ?_
  refine E.CG.list ?_
  refine E.GL.run rfl rfl rfl (E.Runs.move rfl rfl) ?_
  refine E.GL.run rfl rfl rfl (E.Runs.len rfl rfl hu22) ?_
  refine E.GL.run rfl rfl rfl (E.Runs.assign rfl rfl) ?_
  refine E.GL.run rfl rfl rfl (E.Runs.assign rfl rfl) ?_
  refine E.GL.run rfl rfl rfl (E.Runs.assign rfl rfl) ?_
  refine E.GL.done ?_
  refine E.QG.code ?_
  refine E.CG.seq ?_
  refine E.CG.seq ?_
  refine E.CG.list ?_
  refine E.GL.run rfl rfl rfl (E.Runs.fieldAddr rfl rfl hu45 rfl (by assumption) rfl) ?_
  refine E.GL.run rfl rfl rfl (E.Runs.load rfl rfl hu3 (by first | assumption | exact E.blkc (by assumption) rfl | exact pw_cell_below L (by assumption))) ?_
  refine E.GL.run rfl rfl rfl (E.Runs.assign rfl rfl) ?_
  refine E.GL.done ?_
  refine E.QG.code ?_
  refine E.CG.block ?_
  have s3_b3 := b3
  have s3_b4 := b4
  have s3_L := L
  refine E.CG.loop2 (fun (n : Nat) (v : Int × Int) => [(2, .slice A p.length c), (3, .pointer (some ⟨g3, 0, none⟩)), (4, .pointer (some ⟨g4, 0, none⟩)), (7, .int .i64 ((dsN V x p n : Nat) : Int)), (8, .int .i64 v.1), (9, .int .i64 v.2), (10, .int .i64 (((x.f2.toNat + n) : Nat) : Int))]) (fun n v w' => n ≤ nD x ∧ (1 ≤ v.1 ↔ ∀ i, i < n → ∀ q, q < nH x → 1 ≤ sh V x p (x.f2.toNat + i) (x.f4.toNat + q)) ∧ (v.2 ≤ 1 ↔ ∀ i, i < n → ∀ q, q < nH x → sh V x p (x.f2.toNat + i) (x.f4.toNat + q) ≤ 1) ∧ (x.f0 = 3 → ∀ i, i < n → Cln V x p (x.f2.toNat + i)) ∧ w'.heap[g3]? = some (.cells #[.int .i64 V.d, .slice m.A V.rs.length m.a, .int .i64 V.h, .slice m.B V.fs.length m.b, .slice m.C V.ds.length m.c] 26 (0, 0)) ∧ w'.heap[g4]? = some (.cells #[.int .i64 x.f0, .int .i64 x.f1, .int .i64 x.f2, .int .i64 x.f3, .int .i64 x.f4, .int .i64 x.f5, .int .i64 x.f6, .int .i64 x.f7] 45 (0, 0)) ∧ Below w.heap.size w w') (fun n v => nD x - n) 0 ((p.length : Int), 0) (E.subc rfl (E.subc rfl (E.subc rfl (E.subc rfl (E.subc rfl (E.subc rfl (E.subc (congrArg (fun t => some (Value.int .i64 t)) (show x.f2 = ((x.f2.toNat + 0 : Nat) : Int) by omega)) E.subn))))))) ⟨Nat.zero_le _, iff_of_true (show (1 : Int) ≤ p.length by omega) (fun i hi => by omega), iff_of_true (show (0 : Int) ≤ 1 by omega) (fun i hi => by omega), fun _ i hi => by omega, b3, b4, L⟩ ?_
  rintro n v w3 ⟨hn, h1_, h2_, h3_, b3, b4, L⟩
  refine E.CG.seq ?_
  refine E.CG.seq ?_
  refine E.CG.list ?_
  refine E.GL.run rfl rfl rfl (E.Runs.move rfl rfl) ?_
  refine E.GL.run rfl rfl rfl (E.Runs.fieldAddr rfl rfl hu45 rfl (by assumption) rfl) ?_
  refine E.GL.run rfl rfl rfl (E.Runs.load rfl rfl hu3 (by first | assumption | exact E.blkc (by assumption) rfl | exact pw_cell_below L (by assumption))) ?_
  refine E.GL.cmp rfl rfl rfl (fun _ h => (E.Runs.leq rfl rfl rfl h)) (fun h20 => ?_) (fun h20 => ?_)
  · have hds := dsN_le V x p n
    have hmul1 : V.rs.length * (x.f5.toNat - x.f4.toNat + 1) * n ≤ 4 * 4 * 7 := Nat.mul_le_mul (Nat.mul_le_mul (by omega) (by omega)) (by omega)
    refine E.GL.done ?_
    refine E.QG.code ?_
    refine E.CG.cond_t rfl ?_
    refine E.CG.skip ?_
    refine E.QG.code ?_
    refine E.CG.seq ?_
    refine E.CG.block ?_
    refine E.CG.seq ?_
    refine E.CG.seq ?_
    refine E.CG.list ?_
    refine E.GL.run rfl rfl rfl (E.Runs.fieldAddr rfl rfl hu45 rfl (by assumption) rfl) ?_
    refine E.GL.run rfl rfl rfl (E.Runs.load rfl rfl hu3 (by first | assumption | exact E.blkc (by assumption) rfl | exact pw_cell_below L (by assumption))) ?_
    refine E.GL.cmp rfl rfl rfl (fun _ h => (E.Runs.eql rfl rfl rfl h)) (fun h25 => ?_) (fun h25 => ?_)
    · refine E.GL.run rfl rfl rfl (E.Runs.move rfl rfl) ?_
      refine E.GL.run rfl rfl rfl (E.Runs.loads (cs := [.int .i64 V.d, .slice m.A V.rs.length m.a, .int .i64 V.h, .slice m.B V.fs.length m.b, .slice m.C V.ds.length m.c]) rfl rfl hu26 rfl info26s (blk_cells b3)) ?_
      refine E.GL.run rfl rfl rfl (E.Runs.loads (cs := [.int .i64 x.f0, .int .i64 x.f1, .int .i64 x.f2, .int .i64 x.f3, .int .i64 x.f4, .int .i64 x.f5, .int .i64 x.f6, .int .i64 x.f7]) rfl rfl hu45 rfl info45s (blk_cells b4)) ?_
      refine E.GL.run rfl rfl rfl (E.Runs.move rfl rfl) ?_
      refine E.GL.run rfl rfl rfl (E.Runs.move rfl rfl) ?_
      by_cases h31 : Cln V x p (x.f2.toNat + n)
      · refine E.GL.st rfl rfl rfl (E.ST.call rfl ent66 (E.evc rfl (E.evc rfl (E.evc rfl (E.evc rfl E.evn)))) ((clean_o V m x p A c _ ok (hV.below L) hx (Kd.C_below hp L) hpl (x.f2.toNat + n) (by omega) true (iff_of_true rfl h31)).mono ?_))
        rintro e w31 ⟨rfl, l31⟩
        refine ⟨_, rfl, ?_⟩
        replace b3 := blk_below b3 l31
        replace b4 := blk_below b4 l31
        replace L := below_step L l31
        refine E.GL.run rfl rfl rfl (E.Runs.not rfl rfl) ?_
        refine E.GL.run rfl rfl rfl (E.Runs.pick_t rfl rfl rfl) ?_
        refine E.GL.done ?_
        refine E.QG.code ?_
        refine E.CG.cond_f rfl ?_
        refine E.CG.skip ?_
        refine E.QG.code ?_
        refine E.CG.seq ?_
        refine E.CG.list ?_
        refine E.GL.run rfl rfl rfl (E.Runs.fieldAddr rfl rfl hu45 rfl (by assumption) rfl) ?_
        refine E.GL.run rfl rfl rfl (E.Runs.load rfl rfl hu3 (by first | assumption | exact E.blkc (by assumption) rfl | exact pw_cell_below L (by assumption))) ?_
        refine E.GL.run rfl rfl rfl (E.Runs.assign rfl rfl) ?_
        refine E.GL.done ?_
        refine E.QG.code ?_
        refine E.CG.block ?_
        have s8_b3 := b3
        have s8_b4 := b4
        have s8_L := L
        refine E.CG.loop2 (fun (k : Nat) (u : Int × Int) => [(2, .slice A p.length c), (3, .pointer (some ⟨g3, 0, none⟩)), (4, .pointer (some ⟨g4, 0, none⟩)), (7, .int .i64 ((dsN V x p n + hsN V x p (x.f2.toNat + n) k : Nat) : Int)), (8, .int .i64 u.1), (9, .int .i64 u.2), (10, .int .i64 (((x.f2.toNat + n) : Nat) : Int)), (11, .int .i64 (((x.f4.toNat + k) : Nat) : Int))]) (fun k u w' => k ≤ nH x ∧ (1 ≤ u.1 ↔ (∀ i, i < n → ∀ q, q < nH x → 1 ≤ sh V x p (x.f2.toNat + i) (x.f4.toNat + q)) ∧ ∀ q, q < k → 1 ≤ sh V x p (x.f2.toNat + n) (x.f4.toNat + q)) ∧ (u.2 ≤ 1 ↔ (∀ i, i < n → ∀ q, q < nH x → sh V x p (x.f2.toNat + i) (x.f4.toNat + q) ≤ 1) ∧ ∀ q, q < k → sh V x p (x.f2.toNat + n) (x.f4.toNat + q) ≤ 1) ∧ w'.heap[g3]? = some (.cells #[.int .i64 V.d, .slice m.A V.rs.length m.a, .int .i64 V.h, .slice m.B V.fs.length m.b, .slice m.C V.ds.length m.c] 26 (0, 0)) ∧ w'.heap[g4]? = some (.cells #[.int .i64 x.f0, .int .i64 x.f1, .int .i64 x.f2, .int .i64 x.f3, .int .i64 x.f4, .int .i64 x.f5, .int .i64 x.f6, .int .i64 x.f7] 45 (0, 0)) ∧ Below w.heap.size w w') (fun k u => nH x - k) 0 v (E.subc rfl (E.subc rfl (E.subc rfl (E.subc rfl (E.subc rfl (E.subc rfl (E.subc rfl (E.subc (congrArg (fun t => some (Value.int .i64 t)) (show x.f4 = ((x.f4.toNat + 0 : Nat) : Int) by omega)) E.subn)))))))) ⟨Nat.zero_le _, by rw [h1_]; exact ⟨fun h => ⟨h, fun q hq => by omega⟩, fun h => h.1⟩, by rw [h2_]; exact ⟨fun h => ⟨h, fun q hq => by omega⟩, fun h => h.1⟩, b3, b4, L⟩ ?_
        rintro k u w8 ⟨hk, h1_, h2_, b3, b4, L⟩
        refine E.CG.seq ?_
        refine E.CG.seq ?_
        refine E.CG.list ?_
        refine E.GL.run rfl rfl rfl (E.Runs.move rfl rfl) ?_
        refine E.GL.run rfl rfl rfl (E.Runs.fieldAddr rfl rfl hu45 rfl (by assumption) rfl) ?_
        refine E.GL.run rfl rfl rfl (E.Runs.load rfl rfl hu3 (by first | assumption | exact E.blkc (by assumption) rfl | exact pw_cell_below L (by assumption))) ?_
        refine E.GL.cmp rfl rfl rfl (fun _ h => (E.Runs.leq rfl rfl rfl h)) (fun h39 => ?_) (fun h39 => ?_)
        · have hhs := hsN_le V x p (x.f2.toNat + n) k
          have hmul2 : V.rs.length * k ≤ 4 * 4 := Nat.mul_le_mul (by omega) (by omega)
          have hshl := shN_le V x p (x.f2.toNat + n) (x.f4.toNat + k) V.rs.length
          have hshe : sh V x p (x.f2.toNat + n) (x.f4.toNat + k) = shN V x p (x.f2.toNat + n) (x.f4.toNat + k) V.rs.length := rfl
          refine E.GL.done ?_
          refine E.QG.code ?_
          refine E.CG.cond_t rfl ?_
          refine E.CG.skip ?_
          refine E.QG.code ?_
          refine E.CG.seq ?_
          refine E.CG.block ?_
          refine E.CG.seq ?_
          refine E.CG.list ?_
          refine E.GL.run rfl rfl rfl (E.Runs.loads (cs := [.int .i64 V.d, .slice m.A V.rs.length m.a, .int .i64 V.h, .slice m.B V.fs.length m.b, .slice m.C V.ds.length m.c]) rfl rfl hu26 rfl info26s (blk_cells b3)) ?_
          refine E.GL.run rfl rfl rfl (E.Runs.loads (cs := [.int .i64 x.f0, .int .i64 x.f1, .int .i64 x.f2, .int .i64 x.f3, .int .i64 x.f4, .int .i64 x.f5, .int .i64 x.f6, .int .i64 x.f7]) rfl rfl hu45 rfl info45s (blk_cells b4)) ?_
          refine E.GL.run rfl rfl rfl (E.Runs.move rfl rfl) ?_
          refine E.GL.run rfl rfl rfl (E.Runs.move rfl rfl) ?_
          refine E.GL.run rfl rfl rfl (E.Runs.move rfl rfl) ?_
          refine E.GL.st rfl rfl rfl (E.ST.call rfl ent67 (E.evc rfl (E.evc rfl (E.evc rfl (E.evc rfl (E.evc rfl E.evn))))) ((shown_o V m x p A c _ ok (hV.below L) hx (Kd.C_below hp L) hpl (x.f2.toNat + n) (x.f4.toNat + k) (by omega) (by omega)).mono ?_))
          rintro e w47 ⟨rfl, l47⟩
          refine ⟨_, rfl, ?_⟩
          replace b3 := blk_below b3 l47
          replace b4 := blk_below b4 l47
          replace L := below_step L l47
          refine E.GL.run rfl rfl rfl (E.Runs.assign rfl rfl) ?_
          refine E.GL.done ?_
          refine E.QG.code ?_
          refine E.CG.list ?_
          refine E.GL.run rfl rfl rfl (E.Runs.move rfl rfl) ?_
          refine E.GL.run rfl rfl rfl (E.Runs.move rfl rfl) ?_
          refine E.GL.run rfl rfl rfl (E.Runs.add rfl rfl rfl (IntWalk.i64_in _ (by omega))) ?_
          refine E.GL.run rfl rfl rfl (E.Runs.move rfl rfl) ?_
          refine E.GL.run rfl rfl rfl (E.Runs.move rfl rfl) ?_
          refine E.GL.run rfl rfl rfl (E.Runs.min rfl rfl rfl rfl) ?_
          refine E.GL.run rfl rfl rfl (E.Runs.move rfl rfl) ?_
          refine E.GL.run rfl rfl rfl (E.Runs.move rfl rfl) ?_
          refine E.GL.run rfl rfl rfl (E.Runs.max rfl rfl rfl rfl) ?_
          refine E.GL.run rfl rfl rfl (E.Runs.assign rfl rfl) ?_
          refine E.GL.run rfl rfl rfl (E.Runs.assign rfl rfl) ?_
          refine E.GL.run rfl rfl rfl (E.Runs.assign rfl rfl) ?_
          refine E.GL.done ?_
          refine E.QG.block_normal ?_
          refine E.QG.code ?_
          refine E.CG.list ?_
          refine E.GL.run rfl rfl rfl (E.Runs.move rfl rfl) ?_
          refine E.GL.run rfl rfl rfl (E.Runs.add rfl rfl rfl (IntWalk.i64_in _ (by omega))) ?_
          refine E.GL.run rfl rfl rfl (E.Runs.assign rfl rfl) ?_
          refine E.GL.done ?_
          exact E.QG.round2 (d := ((0 : Int), (0 : Int))) (k + 1) (mn u.1 (sh V x p (x.f2.toNat + n) (x.f4.toNat + k) : Int), mx u.2 (sh V x p (x.f2.toNat + n) (x.f4.toNat + k) : Int)) (E.subc rfl (E.subc rfl (E.subc rfl (E.subc (congrArg (fun t => some (Value.int .i64 t)) (show (((dsN V x p n + hsN V x p (x.f2.toNat + n) k : Nat) : Int) + (sh V x p (x.f2.toNat + n) (x.f4.toNat + k) : Int)) = ((dsN V x p n + hsN V x p (x.f2.toNat + n) (k + 1) : Nat) : Int) by rw [hsN]; omega)) (E.subc rfl (E.subc rfl (E.subc rfl (E.subc rfl E.subn)))))))) ⟨by unfold nH at *; omega, le_mn.trans (acc_in h1_ (by show ((1 : Int) ≤ (sh V x p (x.f2.toNat + n) (x.f4.toNat + k) : Int)) ↔ 1 ≤ sh V x p (x.f2.toNat + n) (x.f4.toNat + k); omega)), mx_le.trans (acc_in h2_ (by show ((sh V x p (x.f2.toNat + n) (x.f4.toNat + k) : Int) ≤ (1 : Int)) ↔ sh V x p (x.f2.toNat + n) (x.f4.toNat + k) ≤ 1; omega)), b3, b4, L⟩ (by unfold nH at *; omega)
        · obtain rfl : k = nH x := by unfold nH at hk ⊢; omega
          refine E.GL.done ?_
          refine E.QG.code ?_
          refine E.CG.cond_f rfl ?_
          refine E.CG.exit ?_
          refine E.QG.pass_exit ?_
          refine E.QG.pass_exit ?_
          refine E.QG.block_here ?_
          refine E.QG.block_normal ?_
          refine E.QG.code ?_
          refine E.CG.list ?_
          refine E.GL.run rfl rfl rfl (E.Runs.move rfl rfl) ?_
          refine E.GL.run rfl rfl rfl (E.Runs.add rfl rfl rfl (IntWalk.i64_in _ (by omega))) ?_
          refine E.GL.run rfl rfl rfl (E.Runs.assign rfl rfl) ?_
          refine E.GL.done ?_
          exact E.QG.round2 (d := ((0 : Int), (0 : Int))) (n + 1) u (E.subc rfl (E.subc rfl (E.subc rfl (E.subc rfl (E.subc rfl (E.subc rfl (E.subc rfl E.subn))))))) ⟨by unfold nD at *; omega, acc_out h1_, acc_out h2_, fun e i hi => by
            by_cases q : i = n
            · subst q
              first | exact h31 | exact absurd e h25 | fail
            · exact h3_ e i (by omega), b3, b4, L⟩ (by unfold nD at *; omega)
      · refine E.GL.st rfl rfl rfl (E.ST.call rfl ent66 (E.evc rfl (E.evc rfl (E.evc rfl (E.evc rfl E.evn)))) ((clean_o V m x p A c _ ok (hV.below L) hx (Kd.C_below hp L) hpl (x.f2.toNat + n) (by omega) false (iff_of_false Bool.false_ne_true h31)).mono ?_))
        rintro e w31 ⟨rfl, l31⟩
        refine ⟨_, rfl, ?_⟩
        replace b3 := blk_below b3 l31
        replace b4 := blk_below b4 l31
        replace L := below_step L l31
        refine E.GL.run rfl rfl rfl (E.Runs.not rfl rfl) ?_
        refine E.GL.run rfl rfl rfl (E.Runs.pick_t rfl rfl rfl) ?_
        refine E.GL.done ?_
        refine E.QG.code ?_
        refine E.CG.cond_t rfl ?_
        refine E.CG.seq ?_
        refine E.CG.list ?_
        refine E.GL.run rfl rfl rfl (E.Runs.assign rfl rfl) ?_
        refine E.GL.done ?_
        refine E.QG.code ?_
        refine E.CG.ret ?_
        refine E.QG.pass_ret ?_
        refine E.QG.block_ret ?_
        refine E.QG.pass_ret ?_
        refine E.QG.pass_ret ?_
        refine E.QG.block_ret ?_
        refine E.QG.pass_ret ?_
        exact E.QG.result rfl rfl ⟨by rw [bool_no hb (fun hk_ => h31 ((keep3 h25).mp hk_ n (by unfold nD; omega)))], L⟩
    · refine E.GL.run rfl rfl rfl (E.Runs.move rfl rfl) ?_
      refine E.GL.skip rfl rfl rfl ?_
      refine E.GL.skip rfl rfl rfl ?_
      refine E.GL.skip rfl rfl rfl ?_
      refine E.GL.skip rfl rfl rfl ?_
      refine E.GL.skip rfl rfl rfl ?_
      refine E.GL.skip rfl rfl rfl ?_
      refine E.GL.run rfl rfl rfl (E.Runs.pick_f rfl rfl rfl) ?_
      refine E.GL.done ?_
      refine E.QG.code ?_
      refine E.CG.cond_f rfl ?_
      refine E.CG.skip ?_
      refine E.QG.code ?_
      refine E.CG.seq ?_
      refine E.CG.list ?_
      refine E.GL.run rfl rfl rfl (E.Runs.fieldAddr rfl rfl hu45 rfl (by assumption) rfl) ?_
      refine E.GL.run rfl rfl rfl (E.Runs.load rfl rfl hu3 (by first | assumption | exact E.blkc (by assumption) rfl | exact pw_cell_below L (by assumption))) ?_
      refine E.GL.run rfl rfl rfl (E.Runs.assign rfl rfl) ?_
      refine E.GL.done ?_
      refine E.QG.code ?_
      refine E.CG.block ?_
      have s8_b3 := b3
      have s8_b4 := b4
      have s8_L := L
      refine E.CG.loop2 (fun (k : Nat) (u : Int × Int) => [(2, .slice A p.length c), (3, .pointer (some ⟨g3, 0, none⟩)), (4, .pointer (some ⟨g4, 0, none⟩)), (7, .int .i64 ((dsN V x p n + hsN V x p (x.f2.toNat + n) k : Nat) : Int)), (8, .int .i64 u.1), (9, .int .i64 u.2), (10, .int .i64 (((x.f2.toNat + n) : Nat) : Int)), (11, .int .i64 (((x.f4.toNat + k) : Nat) : Int))]) (fun k u w' => k ≤ nH x ∧ (1 ≤ u.1 ↔ (∀ i, i < n → ∀ q, q < nH x → 1 ≤ sh V x p (x.f2.toNat + i) (x.f4.toNat + q)) ∧ ∀ q, q < k → 1 ≤ sh V x p (x.f2.toNat + n) (x.f4.toNat + q)) ∧ (u.2 ≤ 1 ↔ (∀ i, i < n → ∀ q, q < nH x → sh V x p (x.f2.toNat + i) (x.f4.toNat + q) ≤ 1) ∧ ∀ q, q < k → sh V x p (x.f2.toNat + n) (x.f4.toNat + q) ≤ 1) ∧ w'.heap[g3]? = some (.cells #[.int .i64 V.d, .slice m.A V.rs.length m.a, .int .i64 V.h, .slice m.B V.fs.length m.b, .slice m.C V.ds.length m.c] 26 (0, 0)) ∧ w'.heap[g4]? = some (.cells #[.int .i64 x.f0, .int .i64 x.f1, .int .i64 x.f2, .int .i64 x.f3, .int .i64 x.f4, .int .i64 x.f5, .int .i64 x.f6, .int .i64 x.f7] 45 (0, 0)) ∧ Below w.heap.size w w') (fun k u => nH x - k) 0 v (E.subc rfl (E.subc rfl (E.subc rfl (E.subc rfl (E.subc rfl (E.subc rfl (E.subc rfl (E.subc (congrArg (fun t => some (Value.int .i64 t)) (show x.f4 = ((x.f4.toNat + 0 : Nat) : Int) by omega)) E.subn)))))))) ⟨Nat.zero_le _, by rw [h1_]; exact ⟨fun h => ⟨h, fun q hq => by omega⟩, fun h => h.1⟩, by rw [h2_]; exact ⟨fun h => ⟨h, fun q hq => by omega⟩, fun h => h.1⟩, b3, b4, L⟩ ?_
      rintro k u w8 ⟨hk, h1_, h2_, b3, b4, L⟩
      refine E.CG.seq ?_
      refine E.CG.seq ?_
      refine E.CG.list ?_
      refine E.GL.run rfl rfl rfl (E.Runs.move rfl rfl) ?_
      refine E.GL.run rfl rfl rfl (E.Runs.fieldAddr rfl rfl hu45 rfl (by assumption) rfl) ?_
      refine E.GL.run rfl rfl rfl (E.Runs.load rfl rfl hu3 (by first | assumption | exact E.blkc (by assumption) rfl | exact pw_cell_below L (by assumption))) ?_
      refine E.GL.cmp rfl rfl rfl (fun _ h => (E.Runs.leq rfl rfl rfl h)) (fun h39 => ?_) (fun h39 => ?_)
      · have hhs := hsN_le V x p (x.f2.toNat + n) k
        have hmul2 : V.rs.length * k ≤ 4 * 4 := Nat.mul_le_mul (by omega) (by omega)
        have hshl := shN_le V x p (x.f2.toNat + n) (x.f4.toNat + k) V.rs.length
        have hshe : sh V x p (x.f2.toNat + n) (x.f4.toNat + k) = shN V x p (x.f2.toNat + n) (x.f4.toNat + k) V.rs.length := rfl
        refine E.GL.done ?_
        refine E.QG.code ?_
        refine E.CG.cond_t rfl ?_
        refine E.CG.skip ?_
        refine E.QG.code ?_
        refine E.CG.seq ?_
        refine E.CG.block ?_
        refine E.CG.seq ?_
        refine E.CG.list ?_
        refine E.GL.run rfl rfl rfl (E.Runs.loads (cs := [.int .i64 V.d, .slice m.A V.rs.length m.a, .int .i64 V.h, .slice m.B V.fs.length m.b, .slice m.C V.ds.length m.c]) rfl rfl hu26 rfl info26s (blk_cells b3)) ?_
        refine E.GL.run rfl rfl rfl (E.Runs.loads (cs := [.int .i64 x.f0, .int .i64 x.f1, .int .i64 x.f2, .int .i64 x.f3, .int .i64 x.f4, .int .i64 x.f5, .int .i64 x.f6, .int .i64 x.f7]) rfl rfl hu45 rfl info45s (blk_cells b4)) ?_
        refine E.GL.run rfl rfl rfl (E.Runs.move rfl rfl) ?_
        refine E.GL.run rfl rfl rfl (E.Runs.move rfl rfl) ?_
        refine E.GL.run rfl rfl rfl (E.Runs.move rfl rfl) ?_
        refine E.GL.st rfl rfl rfl (E.ST.call rfl ent67 (E.evc rfl (E.evc rfl (E.evc rfl (E.evc rfl (E.evc rfl E.evn))))) ((shown_o V m x p A c _ ok (hV.below L) hx (Kd.C_below hp L) hpl (x.f2.toNat + n) (x.f4.toNat + k) (by omega) (by omega)).mono ?_))
        rintro e w47 ⟨rfl, l47⟩
        refine ⟨_, rfl, ?_⟩
        replace b3 := blk_below b3 l47
        replace b4 := blk_below b4 l47
        replace L := below_step L l47
        refine E.GL.run rfl rfl rfl (E.Runs.assign rfl rfl) ?_
        refine E.GL.done ?_
        refine E.QG.code ?_
        refine E.CG.list ?_
        refine E.GL.run rfl rfl rfl (E.Runs.move rfl rfl) ?_
        refine E.GL.run rfl rfl rfl (E.Runs.move rfl rfl) ?_
        refine E.GL.run rfl rfl rfl (E.Runs.add rfl rfl rfl (IntWalk.i64_in _ (by omega))) ?_
        refine E.GL.run rfl rfl rfl (E.Runs.move rfl rfl) ?_
        refine E.GL.run rfl rfl rfl (E.Runs.move rfl rfl) ?_
        refine E.GL.run rfl rfl rfl (E.Runs.min rfl rfl rfl rfl) ?_
        refine E.GL.run rfl rfl rfl (E.Runs.move rfl rfl) ?_
        refine E.GL.run rfl rfl rfl (E.Runs.move rfl rfl) ?_
        refine E.GL.run rfl rfl rfl (E.Runs.max rfl rfl rfl rfl) ?_
        refine E.GL.run rfl rfl rfl (E.Runs.assign rfl rfl) ?_
        refine E.GL.run rfl rfl rfl (E.Runs.assign rfl rfl) ?_
        refine E.GL.run rfl rfl rfl (E.Runs.assign rfl rfl) ?_
        refine E.GL.done ?_
        refine E.QG.block_normal ?_
        refine E.QG.code ?_
        refine E.CG.list ?_
        refine E.GL.run rfl rfl rfl (E.Runs.move rfl rfl) ?_
        refine E.GL.run rfl rfl rfl (E.Runs.add rfl rfl rfl (IntWalk.i64_in _ (by omega))) ?_
        refine E.GL.run rfl rfl rfl (E.Runs.assign rfl rfl) ?_
        refine E.GL.done ?_
        exact E.QG.round2 (d := ((0 : Int), (0 : Int))) (k + 1) (mn u.1 (sh V x p (x.f2.toNat + n) (x.f4.toNat + k) : Int), mx u.2 (sh V x p (x.f2.toNat + n) (x.f4.toNat + k) : Int)) (E.subc rfl (E.subc rfl (E.subc rfl (E.subc (congrArg (fun t => some (Value.int .i64 t)) (show (((dsN V x p n + hsN V x p (x.f2.toNat + n) k : Nat) : Int) + (sh V x p (x.f2.toNat + n) (x.f4.toNat + k) : Int)) = ((dsN V x p n + hsN V x p (x.f2.toNat + n) (k + 1) : Nat) : Int) by rw [hsN]; omega)) (E.subc rfl (E.subc rfl (E.subc rfl (E.subc rfl E.subn)))))))) ⟨by unfold nH at *; omega, le_mn.trans (acc_in h1_ (by show ((1 : Int) ≤ (sh V x p (x.f2.toNat + n) (x.f4.toNat + k) : Int)) ↔ 1 ≤ sh V x p (x.f2.toNat + n) (x.f4.toNat + k); omega)), mx_le.trans (acc_in h2_ (by show ((sh V x p (x.f2.toNat + n) (x.f4.toNat + k) : Int) ≤ (1 : Int)) ↔ sh V x p (x.f2.toNat + n) (x.f4.toNat + k) ≤ 1; omega)), b3, b4, L⟩ (by unfold nH at *; omega)
      · obtain rfl : k = nH x := by unfold nH at hk ⊢; omega
        refine E.GL.done ?_
        refine E.QG.code ?_
        refine E.CG.cond_f rfl ?_
        refine E.CG.exit ?_
        refine E.QG.pass_exit ?_
        refine E.QG.pass_exit ?_
        refine E.QG.block_here ?_
        refine E.QG.block_normal ?_
        refine E.QG.code ?_
        refine E.CG.list ?_
        refine E.GL.run rfl rfl rfl (E.Runs.move rfl rfl) ?_
        refine E.GL.run rfl rfl rfl (E.Runs.add rfl rfl rfl (IntWalk.i64_in _ (by omega))) ?_
        refine E.GL.run rfl rfl rfl (E.Runs.assign rfl rfl) ?_
        refine E.GL.done ?_
        exact E.QG.round2 (d := ((0 : Int), (0 : Int))) (n + 1) u (E.subc rfl (E.subc rfl (E.subc rfl (E.subc rfl (E.subc rfl (E.subc rfl (E.subc rfl E.subn))))))) ⟨by unfold nD at *; omega, acc_out h1_, acc_out h2_, fun e i hi => by
          by_cases q : i = n
          · subst q
            first | exact h31 | exact absurd e h25 | fail
          · exact h3_ e i (by omega), b3, b4, L⟩ (by unfold nD at *; omega)
  · obtain rfl : n = nD x := by unfold nD at hn ⊢; omega
    refine E.GL.done ?_
    refine E.QG.code ?_
    refine E.CG.cond_f rfl ?_
    refine E.CG.exit ?_
    refine E.QG.pass_exit ?_
    refine E.QG.pass_exit ?_
    refine E.QG.block_here ?_
    refine E.QG.code ?_
    refine E.CG.seq ?_
    refine E.CG.seq ?_
    refine E.CG.list ?_
    refine E.GL.run rfl rfl rfl (E.Runs.fieldAddr rfl rfl hu45 rfl (by assumption) rfl) ?_
    refine E.GL.run rfl rfl rfl (E.Runs.load rfl rfl hu3 (by first | assumption | exact E.blkc (by assumption) rfl | exact pw_cell_below L (by assumption))) ?_
    refine E.GL.done ?_
    refine E.QG.code ?_
    refine E.CG.block ?_
    refine E.CG.seq ?_
    refine E.CG.list ?_
    refine E.GL.cmp rfl rfl rfl (fun _ h => (E.Runs.eql rfl rfl rfl h)) (fun h60 => ?_) (fun h60 => ?_)
    · refine E.GL.run rfl rfl rfl (E.Runs.assign rfl rfl) ?_
      refine E.GL.done ?_
      refine E.QG.code ?_
      refine E.CG.cond_t rfl ?_
      refine E.CG.seq ?_
      refine E.CG.list ?_
      refine E.GL.run rfl rfl rfl (E.Runs.move rfl rfl) ?_
      refine E.GL.run rfl rfl rfl (E.Runs.fieldAddr rfl rfl hu45 rfl (by assumption) rfl) ?_
      refine E.GL.run rfl rfl rfl (E.Runs.load rfl rfl hu3 (by first | assumption | exact E.blkc (by assumption) rfl | exact pw_cell_below L (by assumption))) ?_
      refine E.GL.cmp rfl rfl rfl (fun _ h => (E.Runs.geq rfl rfl rfl h)) (fun h64 => ?_) (fun h64 => ?_)
      · refine E.GL.run rfl rfl rfl (E.Runs.assign rfl rfl) ?_
        refine E.GL.done ?_
        refine E.QG.code ?_
        refine E.CG.ret ?_
        refine E.QG.block_ret ?_
        refine E.QG.pass_ret ?_
        exact E.QG.result rfl rfl ⟨by rw [hb.mpr ((keep1 h60).mpr (by omega))], L⟩
      · refine E.GL.run rfl rfl rfl (E.Runs.assign rfl rfl) ?_
        refine E.GL.done ?_
        refine E.QG.code ?_
        refine E.CG.ret ?_
        refine E.QG.block_ret ?_
        refine E.QG.pass_ret ?_
        exact E.QG.result rfl rfl ⟨by rw [bool_no hb (fun hk_ => by have := (keep1 h60).mp hk_; omega)], L⟩
    · refine E.GL.run rfl rfl rfl (E.Runs.assign rfl rfl) ?_
      refine E.GL.done ?_
      refine E.QG.code ?_
      refine E.CG.cond_f rfl ?_
      refine E.CG.seq ?_
      refine E.CG.list ?_
      refine E.GL.cmp rfl rfl rfl (fun _ h => (E.Runs.eql rfl rfl rfl h)) (fun h66 => ?_) (fun h66 => ?_)
      · refine E.GL.run rfl rfl rfl (E.Runs.assign rfl rfl) ?_
        refine E.GL.done ?_
        refine E.QG.code ?_
        refine E.CG.cond_t rfl ?_
        refine E.CG.seq ?_
        refine E.CG.list ?_
        refine E.GL.run rfl rfl rfl (E.Runs.move rfl rfl) ?_
        refine E.GL.run rfl rfl rfl (E.Runs.fieldAddr rfl rfl hu45 rfl (by assumption) rfl) ?_
        refine E.GL.run rfl rfl rfl (E.Runs.load rfl rfl hu3 (by first | assumption | exact E.blkc (by assumption) rfl | exact pw_cell_below L (by assumption))) ?_
        refine E.GL.cmp rfl rfl rfl (fun _ h => (E.Runs.leq rfl rfl rfl h)) (fun h70 => ?_) (fun h70 => ?_)
        · refine E.GL.run rfl rfl rfl (E.Runs.assign rfl rfl) ?_
          refine E.GL.done ?_
          refine E.QG.code ?_
          refine E.CG.ret ?_
          refine E.QG.block_ret ?_
          refine E.QG.pass_ret ?_
          exact E.QG.result rfl rfl ⟨by rw [hb.mpr ((keep2 h66).mpr (by omega))], L⟩
        · refine E.GL.run rfl rfl rfl (E.Runs.assign rfl rfl) ?_
          refine E.GL.done ?_
          refine E.QG.code ?_
          refine E.CG.ret ?_
          refine E.QG.block_ret ?_
          refine E.QG.pass_ret ?_
          exact E.QG.result rfl rfl ⟨by rw [bool_no hb (fun hk_ => by have := (keep2 h66).mp hk_; omega)], L⟩
      · refine E.GL.run rfl rfl rfl (E.Runs.assign rfl rfl) ?_
        refine E.GL.done ?_
        refine E.QG.code ?_
        refine E.CG.cond_f rfl ?_
        refine E.CG.seq ?_
        refine E.CG.list ?_
        refine E.GL.cmp rfl rfl rfl (fun _ h => (E.Runs.eql rfl rfl rfl h)) (fun h72 => ?_) (fun h72 => ?_)
        · refine E.GL.run rfl rfl rfl (E.Runs.assign rfl rfl) ?_
          refine E.GL.done ?_
          refine E.QG.code ?_
          refine E.CG.cond_t rfl ?_
          refine E.CG.seq ?_
          refine E.CG.list ?_
          refine E.GL.run rfl rfl rfl (E.Runs.move rfl rfl) ?_
          refine E.GL.cmp rfl rfl rfl (fun _ h => (E.Runs.leq rfl rfl rfl h)) (fun h74 => ?_) (fun h74 => ?_)
          · refine E.GL.run rfl rfl rfl (E.Runs.assign rfl rfl) ?_
            refine E.GL.done ?_
            refine E.QG.code ?_
            refine E.CG.ret ?_
            refine E.QG.block_ret ?_
            refine E.QG.pass_ret ?_
            exact E.QG.result rfl rfl ⟨by rw [hb.mpr ((keep4 h72).mpr (h2_.mp h74))], L⟩
          · refine E.GL.run rfl rfl rfl (E.Runs.assign rfl rfl) ?_
            refine E.GL.done ?_
            refine E.QG.code ?_
            refine E.CG.ret ?_
            refine E.QG.block_ret ?_
            refine E.QG.pass_ret ?_
            exact E.QG.result rfl rfl ⟨by rw [bool_no hb (fun hk_ => h74 (h2_.mpr ((keep4 h72).mp hk_)))], L⟩
        · refine E.GL.run rfl rfl rfl (E.Runs.assign rfl rfl) ?_
          refine E.GL.done ?_
          refine E.QG.code ?_
          refine E.CG.cond_f rfl ?_
          refine E.CG.seq ?_
          refine E.CG.list ?_
          refine E.GL.cmp rfl rfl rfl (fun _ h => (E.Runs.eql rfl rfl rfl h)) (fun h76 => ?_) (fun h76 => ?_)
          · refine E.GL.run rfl rfl rfl (E.Runs.assign rfl rfl) ?_
            refine E.GL.done ?_
            refine E.QG.code ?_
            refine E.CG.cond_t rfl ?_
            refine E.CG.seq ?_
            refine E.CG.list ?_
            refine E.GL.run rfl rfl rfl (E.Runs.move rfl rfl) ?_
            refine E.GL.cmp rfl rfl rfl (fun _ h => (E.Runs.geq rfl rfl rfl h)) (fun h78 => ?_) (fun h78 => ?_)
            · refine E.GL.run rfl rfl rfl (E.Runs.assign rfl rfl) ?_
              refine E.GL.done ?_
              refine E.QG.code ?_
              refine E.CG.ret ?_
              refine E.QG.block_ret ?_
              refine E.QG.pass_ret ?_
              exact E.QG.result rfl rfl ⟨by rw [hb.mpr ((keep5 h76).mpr (h1_.mp h78))], L⟩
            · refine E.GL.run rfl rfl rfl (E.Runs.assign rfl rfl) ?_
              refine E.GL.done ?_
              refine E.QG.code ?_
              refine E.CG.ret ?_
              refine E.QG.block_ret ?_
              refine E.QG.pass_ret ?_
              exact E.QG.result rfl rfl ⟨by rw [bool_no hb (fun hk_ => h78 (h1_.mpr ((keep5 h76).mp hk_)))], L⟩
          · refine E.GL.run rfl rfl rfl (E.Runs.assign rfl rfl) ?_
            refine E.GL.done ?_
            refine E.QG.code ?_
            refine E.CG.cond_f rfl ?_
            refine E.CG.skip ?_
            refine E.QG.block_normal ?_
            refine E.QG.code ?_
            refine E.CG.seq ?_
            refine E.CG.list ?_
            refine E.GL.run rfl rfl rfl (E.Runs.assign rfl rfl) ?_
            refine E.GL.done ?_
            refine E.QG.code ?_
            refine E.CG.ret ?_
            exact E.QG.result rfl rfl ⟨by rw [hb.mpr (keep0 h60 h66 h72 h76 h3_)], L⟩

set_option maxRecDepth 100000 in
set_option maxHeartbeats 8000000 in

theorem takings_o (V : Wk) (m : Wa) (p : List Int) (A : Option Addr) (c : Nat) (w : World) (ok : Shp V) (hV : WM w V m) (hp : Kd.C kI w A p.length p) (hP : IsP V p) :
    Calls Try.prog 59 #[wv V m, .slice A p.length c] w fun e w' => e = .returned (.int .i64 (takes V p)) ∧ Below w.heap.size w w' := by
  have hu3 := Try.underlying3
  have hu22 := Try.underlying22
  have hu23 := Try.underlying23
  have hu26 := Try.underlying26
  have hu49 := Try.underlying49
  obtain ⟨z3, o3⟩ := info_some info3s (by decide)
  obtain ⟨z22, o22⟩ := info_some info22s (by decide)
  obtain ⟨z23, o23⟩ := info_some info23s (by decide)
  obtain ⟨z49, o49⟩ := info_some info49s (by decide)
  obtain ⟨_, hsl8, hsl1⟩ := slots_nat ok
  have hpl := hP.1
  have okh := ok.h
  have okr := ok.r
  have okf := ok.f
  refine E.enter (N := 50) Try.func59 rfl Try.ntmps59 (args := [wv V m, .slice A p.length c]) (by simp) ?_
  have L := Below.refl w.heap.size w
  refine E.CG.seq ?_
  refine E.CG.list ?_
  refine E.GL.st rfl rfl rfl (E.ST.box rfl rfl fun g2 w2 e2 b2 l2 => ?_)
  have h2_L : w.heap.size ≤ g2 := by rw [e2]; exact L.size
  replace L := below_step L l2
  refine E.GL.run rfl rfl rfl (E.Runs.assign rfl rfl) ?_
  refine E.GL.done ?_
  refine E.QG.code ?_
  refine E.CG.seq ?_
  refine E.CG.seq ?_
  refine E.CG.list ?_
  refine E.GL.run rfl rfl rfl (E.Runs.move rfl rfl) ?_
  refine E.GL.run rfl rfl rfl (E.Runs.len rfl rfl hu22) ?_
  refine E.GL.run rfl rfl rfl (E.Runs.move rfl rfl) ?_
  refine E.GL.done ?_
  refine E.QG.code ?_
  refine E.CG.block ?_
  have s2_b2 := b2
  have s2_L := L
  refine E.CG.loop (fun (i : Nat) => [(2, .pointer (some ⟨g2, 0, none⟩)), (4, .int .i64 (tkS V p i)), (8, .slice A p.length c), (9, .int .i64 p.length), (10, .int .i64 i)]) (fun i w' => i ≤ p.length ∧ w'.heap[g2]? = some (.cells #[.int .i64 V.d, .slice m.A V.rs.length m.a, .int .i64 V.h, .slice m.B V.fs.length m.b, .slice m.C V.ds.length m.c] 26 (0, 0)) ∧ Below w.heap.size w w') (fun i => p.length - i) 0 (E.subc rfl (E.subc rfl (E.subc rfl (E.subc rfl (E.subc rfl E.subn))))) ⟨Nat.zero_le _, b2, L⟩ ?_
  rintro i w2 ⟨hi, b2, L⟩
  refine E.CG.seq ?_
  refine E.CG.list ?_
  refine E.GL.cmp rfl rfl rfl (fun _ h => (E.Runs.lss rfl rfl rfl h)) (fun h11 => ?_) (fun h11 => ?_)
  · obtain ⟨y, hy⟩ := get_ex (show i < p.length by omega)
    obtain ⟨ad, eA, X⟩ := int_at hp hy
    have hyr := hP.2 y (mem_of hy)
    have htk := tkS_small ok hP (i := i) (by omega)
    refine E.GL.done ?_
    refine E.QG.code ?_
    refine E.CG.seq ?_
    refine E.CG.cond_t rfl ?_
    refine E.CG.skip ?_
    refine E.QG.code ?_
    refine E.CG.seq ?_
    refine E.CG.block ?_
    refine E.CG.seq ?_
    refine E.CG.list ?_
    refine E.GL.run rfl rfl rfl (E.Runs.move rfl rfl) ?_
    refine E.GL.run rfl rfl rfl (E.Runs.indexAddrA (i := i) rfl rfl rfl hu22 z3 o3 (by omega) eA rfl) ?_
    refine E.GL.run rfl rfl rfl (E.Runs.load rfl rfl hu3 (pw_cell_below L X)) ?_
    refine E.GL.run rfl rfl rfl (E.Runs.assign rfl rfl) ?_
    refine E.GL.run rfl rfl rfl (E.Runs.assign rfl rfl) ?_
    refine E.GL.done ?_
    refine E.QG.code ?_
    refine E.CG.seq ?_
    refine E.CG.list ?_
    refine E.GL.run rfl rfl rfl (E.Runs.move rfl rfl) ?_
    refine E.GL.cmpn rfl rfl rfl (fun _ h => (E.Runs.neq rfl rfl rfl h)) (fun h16 => ?_) (fun h16 => ?_)
    · obtain ⟨j, rfl⟩ : ∃ j : Nat, y = j := ⟨y.toNat, by omega⟩
      obtain ⟨f, hf⟩ := get_ex (show j < V.fs.length by omega)
      obtain ⟨af, a0, k0, eF, _, hf1, XF⟩ := film_at hV.fs hf
      obtain ⟨⟨p0, p1⟩, hl, hcr⟩ := ok.fs f (mem_of hf)
      have hmod := Nat.mod_lt i (show V.h.toNat > 0 by omega)
      have hmod2 := Nat.mod_lt (i / V.h.toNat) (show V.rs.length > 0 by omega)
      have hdiv := Nat.div_le_self i V.h.toNat
      obtain ⟨a, ha⟩ := get_ex (show i % V.h.toNat < f.f1.length by omega)
      obtain ⟨ac, eC, XC⟩ := int_at hf1 ha
      obtain ⟨b, hb⟩ := get_ex hmod2
      obtain ⟨ab, eR, XR⟩ := int_at hV.rs hb
      have hra := hcr a (mem_of ha)
      have hrb := ok.rs b (mem_of hb)
      have hmn : 0 ≤ mn a b ∧ mn a b ≤ 999 := by unfold mn; split <;> omega
      have hml := mul_small p0 p1 hmn.1 hmn.2
      have htf := tk_film hy (by omega) hf ha hb
      have hrem1 : (i : Int).tmod V.h = ((i % V.h.toNat : Nat) : Int) := by rw [tmod_nat (by omega) (by omega), Int.toNat_natCast]
      have hquo : IntKind.i64.wrap ((i : Int).tdiv V.h) = ((i / V.h.toNat : Nat) : Int) := by rw [tdiv_nat (by omega) (by omega), Int.toNat_natCast]; exact IntWalk.i64_in _ (by generalize i / V.h.toNat = q at hdiv ⊢; omega)
      have hrem2 : ((i / V.h.toNat : Nat) : Int).tmod (V.rs.length : Int) = ((i / V.h.toNat % V.rs.length : Nat) : Int) := by rw [tmod_nat (Int.natCast_nonneg _) (by omega), Int.toNat_natCast, Int.toNat_natCast]
      refine E.GL.done ?_
      refine E.QG.code ?_
      refine E.CG.cond_t rfl ?_
      refine E.CG.seq ?_
      refine E.CG.list ?_
      refine E.GL.run rfl rfl rfl (E.Runs.fieldAddr rfl rfl hu26 rfl (by assumption) rfl) ?_
      refine E.GL.run rfl rfl rfl (E.Runs.load1 rfl rfl hu23 rfl (by first | assumption | exact E.blkc (by assumption) rfl | exact pw_cell_below L (by assumption))) ?_
      refine E.GL.run rfl rfl rfl (E.Runs.move rfl rfl) ?_
      refine E.GL.run rfl rfl rfl (E.Runs.indexAddrA (i := j) rfl rfl rfl hu23 z49 o49 (by omega) eF rfl) ?_
      refine E.GL.run rfl rfl rfl (E.Runs.loads (cs := [.int .i64 f.f0, .slice a0 f.f1.length k0]) rfl rfl hu49 rfl info49s (fun j v hv => pw_cell_below L (XF j v hv))) ?_
      refine E.GL.st rfl rfl rfl (E.ST.alloc rfl info49z fun g7 w7 e7 b7 l7 => ?_)
      have h7_L : w.heap.size ≤ g7 := by rw [e7]; exact L.size
      have n7_b2 : g2 ≠ g7 := by have := blk_lt b2; omega
      replace b2 := blk_below b2 l7
      replace L := below_step L l7
      refine E.GL.store_whole rfl rfl rfl rfl rfl b7 rfl info49s (film_one _ _ _ _) fun wS5_6 c7 lS5_6 => ?_
      replace b2 := blk_grown b2 lS5_6 (E.nes (by first | assumption | exact Ne.symm (by assumption)))
      replace L := E.below_own L h7_L lS5_6
      replace b7 := c7
      clear c7
      refine E.GL.done ?_
      refine E.QG.code ?_
      refine E.CG.quietF (by kernel_rfl) rfl (by kernel_rfl) (by kernel_rfl) ?_
      refine E.GQ.run rfl rfl rfl (E.Runs.move rfl rfl) ?_
      refine E.GQ.run rfl rfl rfl (E.Runs.fieldAddr rfl rfl hu49 rfl (by assumption) rfl) ?_
      refine E.GQ.run rfl rfl rfl (E.Runs.load rfl rfl hu3 (by first | assumption | exact E.blkc (by assumption) rfl | exact pw_cell_below L (by assumption))) ?_
      refine E.GQ.run rfl rfl rfl (E.Runs.fieldAddr rfl rfl hu49 rfl (by assumption) rfl) ?_
      refine E.GQ.run rfl rfl rfl (E.Runs.load1 rfl rfl hu22 rfl (by first | assumption | exact E.blkc (by assumption) rfl | exact pw_cell_below L (by assumption))) ?_
      refine E.GQ.run rfl rfl rfl (E.Runs.move rfl rfl) ?_
      refine E.GQ.run rfl rfl rfl (E.Runs.fieldAddr rfl rfl hu26 rfl (by assumption) rfl) ?_
      refine E.GQ.run rfl rfl rfl (E.Runs.load rfl rfl hu3 (by first | assumption | exact E.blkc (by assumption) rfl | exact pw_cell_below L (by assumption))) ?_
      refine E.GQ.run rfl rfl rfl (E.Runs.rem rfl rfl rfl (by omega) hrem1) ?_
      refine E.GQ.run rfl rfl rfl (E.Runs.indexAddrA (i := i % V.h.toNat) rfl rfl rfl hu22 z3 o3 (by omega) eC rfl) ?_
      refine E.GQ.run rfl rfl rfl (E.Runs.load rfl rfl hu3 (pw_cell_below L XC)) ?_
      refine E.GQ.run rfl rfl rfl (E.Runs.fieldAddr rfl rfl hu26 rfl (by assumption) rfl) ?_
      refine E.GQ.run rfl rfl rfl (E.Runs.load1 rfl rfl hu22 rfl (by first | assumption | exact E.blkc (by assumption) rfl | exact pw_cell_below L (by assumption))) ?_
      refine E.GQ.run rfl rfl rfl (E.Runs.move rfl rfl) ?_
      refine E.GQ.run rfl rfl rfl (E.Runs.fieldAddr rfl rfl hu26 rfl (by assumption) rfl) ?_
      refine E.GQ.run rfl rfl rfl (E.Runs.load rfl rfl hu3 (by first | assumption | exact E.blkc (by assumption) rfl | exact pw_cell_below L (by assumption))) ?_
      refine E.GQ.run rfl rfl rfl (E.Runs.quo rfl rfl rfl (by omega) hquo) ?_
      refine E.GQ.run rfl rfl rfl (E.Runs.fieldAddr rfl rfl hu26 rfl (by assumption) rfl) ?_
      refine E.GQ.run rfl rfl rfl (E.Runs.load1 rfl rfl hu22 rfl (by first | assumption | exact E.blkc (by assumption) rfl | exact pw_cell_below L (by assumption))) ?_
      refine E.GQ.run rfl rfl rfl (E.Runs.len rfl rfl hu22) ?_
      refine E.GQ.run rfl rfl rfl (E.Runs.rem rfl rfl rfl (by omega) hrem2) ?_
      refine E.GQ.run rfl rfl rfl (E.Runs.indexAddrA (i := i / V.h.toNat % V.rs.length) rfl rfl rfl hu22 z3 o3 (by omega) eR rfl) ?_
      refine E.GQ.run rfl rfl rfl (E.Runs.load rfl rfl hu3 (pw_cell_below L XR)) ?_
      refine E.GQ.run rfl rfl rfl (E.Runs.min rfl rfl rfl rfl) ?_
      refine E.GQ.run rfl rfl rfl (E.Runs.mul rfl rfl rfl (IntWalk.i64_in _ (by omega))) ?_
      refine E.GQ.run rfl rfl rfl (E.Runs.add rfl rfl rfl (IntWalk.i64_in _ (by omega))) ?_
      refine E.GQ.run rfl rfl rfl (E.Runs.assign rfl rfl) ?_
      refine E.GQ.doneB fun v6 lD => ?_
      replace b2 := blk_below b2 lD
      replace b7 := blk_below b7 lD
      replace L := below_step L lD
      have lD6 := lD
      clear lD
      refine E.QG.block_normal ?_
      refine E.QG.code ?_
      refine E.CG.list ?_
      refine E.GL.run rfl rfl rfl (E.Runs.add rfl rfl rfl (IntWalk.i64_in _ (by omega))) ?_
      refine E.GL.run rfl rfl rfl (E.Runs.move rfl rfl) ?_
      refine E.GL.done ?_
      exact E.QG.round (i + 1) (E.subc rfl (E.subc (by first | (rw [tkS, htf]; rfl) | (rw [tkS, tk_dark (by rw [hy, show y = -1 by omega]), Int.add_zero]; rfl)) (E.subc rfl (E.subc rfl (E.subc rfl E.subn))))) ⟨by omega, b2, L⟩ (by omega)
    · refine E.GL.done ?_
      refine E.QG.code ?_
      refine E.CG.cond_f rfl ?_
      refine E.CG.skip ?_
      refine E.QG.block_normal ?_
      refine E.QG.code ?_
      refine E.CG.list ?_
      refine E.GL.run rfl rfl rfl (E.Runs.add rfl rfl rfl (IntWalk.i64_in _ (by omega))) ?_
      refine E.GL.run rfl rfl rfl (E.Runs.move rfl rfl) ?_
      refine E.GL.done ?_
      exact E.QG.round (i + 1) (E.subc rfl (E.subc (by first | (rw [tkS, htf]; rfl) | (rw [tkS, tk_dark (by rw [hy, show y = -1 by omega]), Int.add_zero]; rfl)) (E.subc rfl (E.subc rfl (E.subc rfl E.subn))))) ⟨by omega, b2, L⟩ (by omega)
  · obtain rfl : i = p.length := by omega
    refine E.GL.done ?_
    refine E.QG.code ?_
    refine E.CG.seq ?_
    refine E.CG.cond_f rfl ?_
    refine E.CG.exit ?_
    refine E.QG.pass_exit ?_
    refine E.QG.pass_exit ?_
    refine E.QG.block_here ?_
    refine E.QG.code ?_
    refine E.CG.seq ?_
    refine E.CG.list ?_
    refine E.GL.run rfl rfl rfl (E.Runs.move rfl rfl) ?_
    refine E.GL.run rfl rfl rfl (E.Runs.assign rfl rfl) ?_
    refine E.GL.done ?_
    refine E.QG.code ?_
    refine E.CG.ret ?_
    exact E.QG.result rfl rfl ⟨rfl, L⟩

end Go.Proofs.Ytdiambcjghlffaa.T
namespace Go.Proofs.Ytdiambcjghlffaa.T
open Go.RowKit Go.Proofs.YtdiambcjghlffaaW.PrintWords Go.Proofs.YtdiambcjghlffaaW.PrintMore
open Go.Proofs.Ytdiambcjghlffaa.P
set_option linter.unusedVariables false
set_option linter.unusedSimpArgs false

set_option maxRecDepth 100000 in
theorem lit22 (x : Int) (W : World) : (Instr.buildSlice 22 1 #[(0, .int .i64 x)]).run Try.prog W = .ok (.slice (some ⟨W.heap.size, 0, none⟩) 1 1) (W.alloc (.cells #[.int .i64 x] 3 (0, 0))) := by
  have hu22 := Try.underlying22
  go_simp
def chkP (V : Wk) (p : List Int) : Int := if WOk V then (if IsP V p then 0 else 52) else chk V
theorem chkP_bad {V : Wk} {p : List Int} (h : chk V ≠ 0) : chkP V p = chk V := by unfold chkP; rw [if_neg fun k => h (chk_ok.mpr k)]
theorem chkP_no {V : Wk} {p : List Int} (h : WOk V) (k : ¬ IsP V p) : chkP V p = 52 := by unfold chkP; rw [if_pos h, if_neg k]
theorem chkP_yes {V : Wk} {p : List Int} (h : WOk V) (k : IsP V p) : chkP V p = 0 := by unfold chkP; rw [if_pos h, if_pos k]
theorem chkP_ok {V : Wk} {p : List Int} : chkP V p = 0 ↔ WOk V ∧ IsP V p := by
  unfold chkP
  split
  · next h =>
    split
    · next k => exact iff_of_true rfl ⟨h, k⟩
    · next k => exact iff_of_false (by decide) fun q => k q.2
  · next h => exact iff_of_false (fun q => h (chk_ok.mp q)) fun q => h q.1
/-- A deal is not kept. -/
def bad (V : Wk) (p : List Int) (i : Nat) : Prop := ¬ Keep V (V.ds.getD i z45) p
section
open Classical
/-- The first deals that a program does not keep. -/
noncomputable def brk (V : Wk) (p : List Int) (n : Nat) : List Int := ((List.range n).filter (fun i => decide (bad V p i))).map (fun (i : Nat) => (i : Int))
end
noncomputable def brA (V : Wk) (p : List Int) : List Int := if chkP V p = 0 then brk V p V.ds.length else []
def tkA (V : Wk) (p : List Int) : Int := if chkP V p = 0 then takes V p else 0
theorem ds_of {V : Wk} {i : Nat} {x : S45} (h : V.ds[i]? = some x) : V.ds.getD i z45 = x := by rw [List.getD_eq_getElem?_getD, h]; rfl
theorem bad_iff {V : Wk} {p : List Int} {i : Nat} {x : S45} (hx : V.ds[i]? = some x) : bad V p i ↔ ¬ Keep V x p := by unfold bad; rw [ds_of hx]
theorem brk_yes {V : Wk} {p : List Int} {i : Nat} {x : S45} (hx : V.ds[i]? = some x) (h : Keep V x p) : brk V p (i + 1) = brk V p i := by
  have hb : ¬ bad V p i := fun k => (bad_iff hx).mp k h
  unfold brk
  rw [List.range_succ, List.filter_append, List.map_append]
  simp [hb]
theorem brk_no {V : Wk} {p : List Int} {i : Nat} {x : S45} (hx : V.ds[i]? = some x) (h : ¬ Keep V x p) : brk V p (i + 1) = brk V p i ++ [(i : Int)] := by
  have hb : bad V p i := (bad_iff hx).mpr h
  unfold brk
  rw [List.range_succ, List.filter_append, List.map_append]
  simp [hb]
theorem brk_len (V : Wk) (p : List Int) (n : Nat) : (brk V p n).length ≤ n := by
  unfold brk
  rw [List.length_map]
  have := List.length_filter_le (fun i => @decide (bad V p i) (Classical.propDecidable _)) (List.range n)
  rw [List.length_range] at this
  exact this
set_option maxRecDepth 100000 in
set_option maxHeartbeats 8000000 in

theorem checkP_o (V : Wk) (m : Wa) (p : List Int) (A : Option Addr) (c : Nat) (w : World) (hV : WM w V m) (hs : Sz V) (hp : Kd.C kI w A p.length p) (hpn : p.length ≤ 1000000) :
    Calls Try.prog 48 #[wv V m, .slice A p.length c] w fun e w' => e = .returned (.int .i64 (chkP V p)) ∧ Below w.heap.size w w' := by
  have hsf := hs.f
  have hu3 := Try.underlying3
  have hu22 := Try.underlying22
  have hu23 := Try.underlying23
  have hu26 := Try.underlying26
  have hu30 := Try.underlying30
  obtain ⟨z3, o3⟩ := info_some info3s (by decide)
  obtain ⟨z23, o23⟩ := info_some info23s (by decide)
  refine E.enter (N := 25) Try.func48 rfl Try.ntmps48 (args := [wv V m, .slice A p.length c]) (by simp) ?_
  have L := Below.refl w.heap.size w
  refine E.CG.seq ?_
  refine E.CG.list ?_
  refine E.GL.st rfl rfl rfl (E.ST.box rfl rfl fun g2 w2 e2 b2 l2 => ?_)
  have h2_L : w.heap.size ≤ g2 := by rw [e2]; exact L.size
  replace L := below_step L l2
  refine E.GL.run rfl rfl rfl (E.Runs.assign rfl rfl) ?_
  refine E.GL.done ?_
  refine E.QG.code ?_
  refine E.CG.seq ?_
  refine E.CG.seq ?_
  refine E.CG.list ?_
  refine E.GL.run rfl rfl rfl (E.Runs.loads (cs := [.int .i64 V.d, .slice m.A V.rs.length m.a, .int .i64 V.h, .slice m.B V.fs.length m.b, .slice m.C V.ds.length m.c]) rfl rfl hu26 rfl info26s (blk_cells b2)) ?_
  refine E.GL.st rfl rfl rfl (E.ST.call rfl ent31 (E.evc rfl E.evn) ((check_o V m _ (hV.below L) hs).mono ?_))
  rintro e w7 ⟨rfl, l7⟩
  refine ⟨_, rfl, ?_⟩
  replace b2 := blk_below b2 l7
  replace L := below_step L l7
  refine E.GL.run rfl rfl rfl (E.Runs.assign rfl rfl) ?_
  refine E.GL.done ?_
  refine E.QG.code ?_
  refine E.CG.seq ?_
  refine E.CG.list ?_
  refine E.GL.run rfl rfl rfl (E.Runs.move rfl rfl) ?_
  refine E.GL.cmpn rfl rfl rfl (fun _ h => (E.Runs.neq rfl rfl rfl h)) (fun h9 => ?_) (fun h9 => ?_)
  · refine E.GL.done ?_
    refine E.QG.code ?_
    refine E.CG.cond_t rfl ?_
    refine E.CG.seq ?_
    refine E.CG.list ?_
    refine E.GL.run rfl rfl rfl (E.Runs.move rfl rfl) ?_
    refine E.GL.run rfl rfl rfl (E.Runs.assign rfl rfl) ?_
    refine E.GL.done ?_
    refine E.QG.code ?_
    refine E.CG.ret ?_
    refine E.QG.pass_ret ?_
    exact E.QG.result rfl rfl ⟨by rw [chkP_bad (by omega)], L⟩
  · obtain ⟨he, _⟩ : chk V = 0 ∧ True := ⟨by omega, trivial⟩
    have ok := chk_ok.mp he
    have hsn := slots_nat ok.s
    refine E.GL.done ?_
    refine E.QG.code ?_
    refine E.CG.cond_f rfl ?_
    refine E.CG.skip ?_
    refine E.QG.code ?_
    refine E.CG.seq ?_
    refine E.CG.seq ?_
    refine E.CG.list ?_
    refine E.GL.run rfl rfl rfl (E.Runs.move rfl rfl) ?_
    refine E.GL.run rfl rfl rfl (E.Runs.len rfl rfl hu22) ?_
    refine E.GL.run rfl rfl rfl (E.Runs.loads (cs := [.int .i64 V.d, .slice m.A V.rs.length m.a, .int .i64 V.h, .slice m.B V.fs.length m.b, .slice m.C V.ds.length m.c]) rfl rfl hu26 rfl info26s (blk_cells b2)) ?_
    refine E.GL.st rfl rfl rfl (E.ST.call rfl ent64 (E.evc rfl E.evn) ((slots_o V m _ ok.s.d ok.s.r ok.s.h).mono ?_))
    rintro e w14 ⟨rfl, l14⟩
    refine ⟨_, rfl, ?_⟩
    replace b2 := blk_below b2 l14
    replace L := below_step L l14
    refine E.GL.cmpn rfl rfl rfl (fun _ h => (E.Runs.neq rfl rfl rfl h)) (fun h15 => ?_) (fun h15 => ?_)
    · refine E.GL.run rfl rfl rfl (E.Runs.move rfl rfl) ?_
      refine E.GL.skip rfl rfl rfl ?_
      refine E.GL.skip rfl rfl rfl ?_
      refine E.GL.skip rfl rfl rfl ?_
      refine E.GL.skip rfl rfl rfl ?_
      refine E.GL.skip rfl rfl rfl ?_
      refine E.GL.skip rfl rfl rfl ?_
      refine E.GL.skip rfl rfl rfl ?_
      refine E.GL.run rfl rfl rfl (E.Runs.pick_t rfl rfl rfl) ?_
      refine E.GL.done ?_
      refine E.QG.code ?_
      refine E.CG.cond_t rfl ?_
      refine E.CG.seq ?_
      refine E.CG.list ?_
      refine E.GL.run rfl rfl rfl (E.Runs.assign rfl rfl) ?_
      refine E.GL.done ?_
      refine E.QG.code ?_
      refine E.CG.ret ?_
      refine E.QG.pass_ret ?_
      exact E.QG.result rfl rfl ⟨by rw [chkP_no ok (fun k => by have := k.1; omega)], L⟩
    · refine E.GL.run rfl rfl rfl (E.Runs.move rfl rfl) ?_
      refine E.GL.run rfl rfl rfl (E.Runs.move rfl rfl) ?_
      refine E.GL.run rfl rfl rfl (E.Runs.fieldAddr rfl rfl hu26 rfl (by assumption) rfl) ?_
      refine E.GL.run rfl rfl rfl (E.Runs.load1 rfl rfl hu23 rfl (by first | assumption | exact E.blkc (by assumption) rfl | exact pw_cell_below L (by assumption))) ?_
      refine E.GL.run rfl rfl rfl (E.Runs.len rfl rfl hu23) ?_
      refine E.GL.run rfl rfl rfl (E.Runs.sub rfl rfl rfl (IntWalk.i64_in _ (by omega))) ?_
      by_cases h22 : AllR p (-1) (V.fs.length - 1)
      · refine E.GL.st rfl rfl rfl (E.ST.call rfl ent65 (E.evc rfl (E.evc rfl (E.evc rfl E.evn))) ((are_o p A c (-1) (V.fs.length - 1) _ (Kd.C_below hp L) hpn true (iff_of_true rfl h22)).mono ?_))
        rintro e w22 ⟨rfl, l22⟩
        refine ⟨_, rfl, ?_⟩
        replace b2 := blk_below b2 l22
        replace L := below_step L l22
        refine E.GL.run rfl rfl rfl (E.Runs.not rfl rfl) ?_
        refine E.GL.run rfl rfl rfl (E.Runs.pick_f rfl rfl rfl) ?_
        refine E.GL.done ?_
        refine E.QG.code ?_
        refine E.CG.cond_f rfl ?_
        refine E.CG.skip ?_
        refine E.QG.code ?_
        refine E.CG.seq ?_
        refine E.CG.list ?_
        refine E.GL.run rfl rfl rfl (E.Runs.assign rfl rfl) ?_
        refine E.GL.done ?_
        refine E.QG.code ?_
        refine E.CG.ret ?_
        exact E.QG.result rfl rfl ⟨by rw [chkP_yes ok ⟨by omega, h22⟩], L⟩
      · refine E.GL.st rfl rfl rfl (E.ST.call rfl ent65 (E.evc rfl (E.evc rfl (E.evc rfl E.evn))) ((are_o p A c (-1) (V.fs.length - 1) _ (Kd.C_below hp L) hpn false (iff_of_false Bool.false_ne_true h22)).mono ?_))
        rintro e w22 ⟨rfl, l22⟩
        refine ⟨_, rfl, ?_⟩
        replace b2 := blk_below b2 l22
        replace L := below_step L l22
        refine E.GL.run rfl rfl rfl (E.Runs.not rfl rfl) ?_
        refine E.GL.run rfl rfl rfl (E.Runs.pick_f rfl rfl rfl) ?_
        refine E.GL.done ?_
        refine E.QG.code ?_
        refine E.CG.cond_t rfl ?_
        refine E.CG.seq ?_
        refine E.CG.list ?_
        refine E.GL.run rfl rfl rfl (E.Runs.assign rfl rfl) ?_
        refine E.GL.done ?_
        refine E.QG.code ?_
        refine E.CG.ret ?_
        refine E.QG.pass_ret ?_
        exact E.QG.result rfl rfl ⟨by rw [chkP_no ok (fun k => h22 k.2)], L⟩

set_option maxRecDepth 100000 in
set_option maxHeartbeats 8000000 in

theorem broken_o (V : Wk) (m : Wa) (p : List Int) (A : Option Addr) (c : Nat) (w : World) (hV : WM w V m) (hs : Sz V) (hp : Kd.C kI w A p.length p) (hpn : p.length ≤ 1000000) :
    Calls Try.prog 25 #[wv V m, .slice A p.length c] w fun e w' => ∃ v, e = .returned (.tuple #[v, .int .i64 (chkP V p)]) ∧ Kd.R kI 3 w' w.heap.size (fun _ => True) v (brA V p) ∧ Below w.heap.size w w' := by
  have hu3 := Try.underlying3
  have hu22 := Try.underlying22
  have hu24 := Try.underlying24
  have hu26 := Try.underlying26
  have hu30 := Try.underlying30
  have hu45 := Try.underlying45
  obtain ⟨z3, o3⟩ := info_some info3s (by decide)
  obtain ⟨z22, o22⟩ := info_some info22s (by decide)
  obtain ⟨z24, o24⟩ := info_some info24s (by decide)
  obtain ⟨z45, o45⟩ := info_some info45s (by decide)
  refine E.enter (N := 35) Try.func25 rfl Try.ntmps25 (args := [wv V m, .slice A p.length c]) (by simp) ?_
  have L := Below.refl w.heap.size w
  refine E.CG.seq ?_
  refine E.CG.list ?_
  refine E.GL.st rfl rfl rfl (E.ST.box rfl rfl fun g2 w2 e2 b2 l2 => ?_)
  have h2_L : w.heap.size ≤ g2 := by rw [e2]; exact L.size
  replace L := below_step L l2
  refine E.GL.run rfl rfl rfl (E.Runs.assign rfl rfl) ?_
  refine E.GL.run rfl rfl rfl (E.Runs.assign rfl rfl) ?_
  refine E.GL.done ?_
  refine E.QG.code ?_
  refine E.CG.seq ?_
  refine E.CG.seq ?_
  refine E.CG.list ?_
  refine E.GL.run rfl rfl rfl (E.Runs.loads (cs := [.int .i64 V.d, .slice m.A V.rs.length m.a, .int .i64 V.h, .slice m.B V.fs.length m.b, .slice m.C V.ds.length m.c]) rfl rfl hu26 rfl info26s (blk_cells b2)) ?_
  refine E.GL.run rfl rfl rfl (E.Runs.move rfl rfl) ?_
  refine E.GL.st rfl rfl rfl (E.ST.call rfl ent48 (E.evc rfl (E.evc rfl E.evn)) ((checkP_o V m p A c _ (hV.below L) hs (Kd.C_below hp L) hpn).mono ?_))
  rintro e w12 ⟨rfl, l12⟩
  refine ⟨_, rfl, ?_⟩
  replace b2 := blk_below b2 l12
  replace L := below_step L l12
  refine E.GL.run rfl rfl rfl (E.Runs.assign rfl rfl) ?_
  refine E.GL.done ?_
  refine E.QG.code ?_
  refine E.CG.seq ?_
  refine E.CG.list ?_
  refine E.GL.run rfl rfl rfl (E.Runs.move rfl rfl) ?_
  refine E.GL.cmpn rfl rfl rfl (fun _ h => (E.Runs.neq rfl rfl rfl h)) (fun h14 => ?_) (fun h14 => ?_)
  · refine E.GL.done ?_
    refine E.QG.code ?_
    refine E.CG.cond_t rfl ?_
    refine E.CG.seq ?_
    refine E.CG.list ?_
    refine E.GL.run rfl rfl rfl (E.Runs.move rfl rfl) ?_
    refine E.GL.run rfl rfl rfl (E.Runs.assign rfl rfl) ?_
    refine E.GL.run rfl rfl rfl (E.Runs.assign rfl rfl) ?_
    refine E.GL.done ?_
    refine E.QG.code ?_
    refine E.CG.ret ?_
    refine E.QG.pass_ret ?_
    exact E.QG.result2 rfl rfl rfl ⟨_, rfl, by unfold brA; rw [if_neg (by omega)]; exact Kd.R_nil _ _ _ _ _, L⟩
  · have h0 := chkP_ok.mp (show chkP V p = 0 by omega)
    have ok := h0.1
    have hpl := h0.2.1
    have hds := ok.s.ds
    refine E.GL.done ?_
    refine E.QG.code ?_
    refine E.CG.cond_f rfl ?_
    refine E.CG.skip ?_
    refine E.QG.code ?_
    refine E.CG.seq ?_
    refine E.CG.list ?_
    refine E.GL.run rfl rfl rfl (E.Runs.assign rfl rfl) ?_
    refine E.GL.done ?_
    refine E.QG.code ?_
    refine E.CG.seq ?_
    refine E.CG.seq ?_
    refine E.CG.list ?_
    refine E.GL.run rfl rfl rfl (E.Runs.fieldAddr rfl rfl hu26 rfl (by assumption) rfl) ?_
    refine E.GL.run rfl rfl rfl (E.Runs.load1 rfl rfl hu24 rfl (by first | assumption | exact E.blkc (by assumption) rfl | exact pw_cell_below L (by assumption))) ?_
    refine E.GL.run rfl rfl rfl (E.Runs.len rfl rfl hu24) ?_
    refine E.GL.run rfl rfl rfl (E.Runs.move rfl rfl) ?_
    refine E.GL.done ?_
    refine E.QG.code ?_
    refine E.CG.block ?_
    have s6_b2 := b2
    have s6_L := L
    refine E.CG.loop2 (fun (i : Nat) (v7 : Value) => [(1, .slice A p.length c), (2, .pointer (some ⟨g2, 0, none⟩)), (7, v7), (17, .slice m.C V.ds.length m.c), (18, .int .i64 V.ds.length), (19, .int .i64 i)]) (fun i v7 w' => i ≤ V.ds.length ∧ Kd.R kI 3 w' w.heap.size (fun _ => True) v7 (brk V p i) ∧ w'.heap[g2]? = some (.cells #[.int .i64 V.d, .slice m.A V.rs.length m.a, .int .i64 V.h, .slice m.B V.fs.length m.b, .slice m.C V.ds.length m.c] 26 (0, 0)) ∧ Below w.heap.size w w') (fun i v7 => V.ds.length - i) 0 (.slice none 0 0) (E.subc rfl (E.subc rfl (E.subc rfl (E.subc rfl (E.subc rfl (E.subc rfl E.subn)))))) ⟨Nat.zero_le _, Kd.R_nil _ _ _ _ _, b2, L⟩ ?_
    rintro i v7 w6 ⟨hi, R7, b2, L⟩
    refine E.CG.seq ?_
    refine E.CG.list ?_
    refine E.GL.cmp rfl rfl rfl (fun _ h => (E.Runs.lss rfl rfl rfl h)) (fun h20 => ?_) (fun h20 => ?_)
    · obtain ⟨x, hx⟩ := get_ex (show i < V.ds.length by omega)
      obtain ⟨ad, eA, X⟩ := deal_at hV.ds hx
      refine E.GL.done ?_
      refine E.QG.code ?_
      refine E.CG.seq ?_
      refine E.CG.cond_t rfl ?_
      refine E.CG.skip ?_
      refine E.QG.code ?_
      refine E.CG.seq ?_
      refine E.CG.block ?_
      refine E.CG.seq ?_
      refine E.CG.list ?_
      refine E.GL.run rfl rfl rfl (E.Runs.move rfl rfl) ?_
      refine E.GL.run rfl rfl rfl (E.Runs.indexAddrA (i := i) rfl rfl rfl hu24 z45 o45 (by omega) eA rfl) ?_
      refine E.GL.run rfl rfl rfl (E.Runs.loads (cs := [.int .i64 x.f0, .int .i64 x.f1, .int .i64 x.f2, .int .i64 x.f3, .int .i64 x.f4, .int .i64 x.f5, .int .i64 x.f6, .int .i64 x.f7]) rfl rfl hu45 rfl info45s (fun j v hv => pw_cell_below L (X j v hv))) ?_
      refine E.GL.st rfl rfl rfl (E.ST.alloc rfl info45z fun g9 w9 e9 b9 l9 => ?_)
      have h9_L : w.heap.size ≤ g9 := by rw [e9]; exact L.size
      have n9_b2 : g2 ≠ g9 := by have := blk_lt b2; omega
      have n9_R7 : some g9 ≠ (v7).ownBlock := fun h => by have := Kd.R_lt R7 _ h.symm; omega
      replace b2 := blk_below b2 l9
      replace R7 := Kd.R_below R7 l9
      replace L := below_step L l9
      refine E.GL.run rfl rfl rfl (E.Runs.assign rfl rfl) ?_
      refine E.GL.store_whole rfl rfl rfl rfl rfl b9 rfl info45s (deal_one _) fun wS7_5 c9 lS7_5 => ?_
      replace b2 := blk_grown b2 lS7_5 (E.nes (by first | assumption | exact Ne.symm (by assumption)))
      replace R7 := Kd.R_grown1 R7 rfl lS7_5 (by first | assumption | exact Kd.R_ne R7 b9 (by decide))
      replace L := E.below_own L h9_L lS7_5
      replace b9 := c9
      clear c9
      refine E.GL.done ?_
      refine E.QG.code ?_
      refine E.CG.seq ?_
      refine E.CG.list ?_
      refine E.GL.run rfl rfl rfl (E.Runs.loads (cs := [.int .i64 V.d, .slice m.A V.rs.length m.a, .int .i64 V.h, .slice m.B V.fs.length m.b, .slice m.C V.ds.length m.c]) rfl rfl hu26 rfl info26s (blk_cells b2)) ?_
      refine E.GL.run rfl rfl rfl (E.Runs.loads (cs := [.int .i64 x.f0, .int .i64 x.f1, .int .i64 x.f2, .int .i64 x.f3, .int .i64 x.f4, .int .i64 x.f5, .int .i64 x.f6, .int .i64 x.f7]) rfl rfl hu45 rfl info45s (blk_cells b9)) ?_
      refine E.GL.run rfl rfl rfl (E.Runs.move rfl rfl) ?_
      by_cases h27 : Keep V x p
      · refine E.GL.st rfl rfl rfl (E.ST.call rfl ent49 (E.evc rfl (E.evc rfl (E.evc rfl E.evn))) ((kept_o V m x p A c _ ok.s (hV.below L) (ok.ds x (mem_of hx)) (Kd.C_below hp L) hpl true (iff_of_true rfl h27)).mono ?_))
        rintro e w27 ⟨rfl, l27⟩
        refine ⟨_, rfl, ?_⟩
        replace b2 := blk_below b2 l27
        replace b9 := blk_below b9 l27
        replace R7 := Kd.R_below R7 l27
        replace L := below_step L l27
        refine E.GL.run rfl rfl rfl (E.Runs.not rfl rfl) ?_
        refine E.GL.done ?_
        refine E.QG.code ?_
        refine E.CG.cond_f rfl ?_
        refine E.CG.skip ?_
        refine E.QG.block_normal ?_
        refine E.QG.code ?_
        refine E.CG.list ?_
        refine E.GL.run rfl rfl rfl (E.Runs.add rfl rfl rfl (IntWalk.i64_in _ (by omega))) ?_
        refine E.GL.run rfl rfl rfl (E.Runs.move rfl rfl) ?_
        refine E.GL.done ?_
        exact E.QG.round2 (d := .slice none 0 0) (i + 1) _ (E.subc rfl (E.subc rfl (E.subc rfl (E.subc rfl (E.subc rfl (E.subc rfl E.subn)))))) (by first | exact ⟨by omega, by rw [brk_yes hx h27]; exact R7, b2, L⟩ | exact ⟨by omega, by rw [brk_no hx h27]; exact r32, b2, L⟩ | fail) (by omega)
      · refine E.GL.st rfl rfl rfl (E.ST.call rfl ent49 (E.evc rfl (E.evc rfl (E.evc rfl E.evn))) ((kept_o V m x p A c _ ok.s (hV.below L) (ok.ds x (mem_of hx)) (Kd.C_below hp L) hpl false (iff_of_false Bool.false_ne_true h27)).mono ?_))
        rintro e w27 ⟨rfl, l27⟩
        refine ⟨_, rfl, ?_⟩
        replace b2 := blk_below b2 l27
        replace b9 := blk_below b9 l27
        replace R7 := Kd.R_below R7 l27
        replace L := below_step L l27
        refine E.GL.run rfl rfl rfl (E.Runs.not rfl rfl) ?_
        refine E.GL.done ?_
        refine E.QG.code ?_
        refine E.CG.cond_t rfl ?_
        refine E.CG.list ?_
        refine E.GL.run rfl rfl rfl (E.Runs.move rfl rfl) ?_
        refine E.GL.run rfl rfl rfl (E.Runs.move rfl rfl) ?_
        refine E.GL.st rfl rfl rfl (E.ST.lit rfl (E.epc rfl E.epn) (lit22 _) ?_)
        refine E.GL.st rfl rfl rfl (E.ST.append kI w.heap.size (w0 := w) (s := .tmp 29) (x := .tmp 31) rfl hu22 info3 rfl (by decide) (by decide) (i : Int) rfl rfl rfl (fun _ _ => trivial) R7 L L.size (by have := brk_len V p i; omega) fun u32 w32 r32 k32 gr32 => ?_)
        replace b2 := blk_grown b2 gr32 (Kd.R_ne R7 b2 (by decide))
        replace L := k32
        refine E.GL.run rfl rfl rfl (E.Runs.assign rfl rfl) ?_
        refine E.GL.done ?_
        refine E.QG.block_normal ?_
        refine E.QG.code ?_
        refine E.CG.list ?_
        refine E.GL.run rfl rfl rfl (E.Runs.add rfl rfl rfl (IntWalk.i64_in _ (by omega))) ?_
        refine E.GL.run rfl rfl rfl (E.Runs.move rfl rfl) ?_
        refine E.GL.done ?_
        exact E.QG.round2 (d := .slice none 0 0) (i + 1) _ (E.subc rfl (E.subc rfl (E.subc rfl (E.subc rfl (E.subc rfl (E.subc rfl E.subn)))))) (by first | exact ⟨by omega, by rw [brk_yes hx h27]; exact R7, b2, L⟩ | exact ⟨by omega, by rw [brk_no hx h27]; exact r32, b2, L⟩ | fail) (by omega)
    · obtain rfl : i = V.ds.length := by omega
      refine E.GL.done ?_
      refine E.QG.code ?_
      refine E.CG.seq ?_
      refine E.CG.cond_f rfl ?_
      refine E.CG.exit ?_
      refine E.QG.pass_exit ?_
      refine E.QG.pass_exit ?_
      refine E.QG.block_here ?_
      refine E.QG.code ?_
      refine E.CG.seq ?_
      refine E.CG.list ?_
      refine E.GL.run rfl rfl rfl (E.Runs.move rfl rfl) ?_
      refine E.GL.run rfl rfl rfl (E.Runs.assign rfl rfl) ?_
      refine E.GL.run rfl rfl rfl (E.Runs.assign rfl rfl) ?_
      refine E.GL.done ?_
      refine E.QG.code ?_
      refine E.CG.ret ?_
      exact E.QG.result2 rfl rfl rfl ⟨_, by rw [chkP_ok.mpr h0], by unfold brA; rw [if_pos (chkP_ok.mpr h0)]; exact R7, L⟩

set_option maxRecDepth 100000 in
set_option maxHeartbeats 8000000 in

theorem takingsP_o (V : Wk) (m : Wa) (p : List Int) (A : Option Addr) (c : Nat) (w : World) (hV : WM w V m) (hs : Sz V) (hp : Kd.C kI w A p.length p) (hpn : p.length ≤ 1000000) :
    Calls Try.prog 32 #[wv V m, .slice A p.length c] w fun e w' => e = .returned (.tuple #[.int .i64 (tkA V p), .int .i64 (chkP V p)]) ∧ Below w.heap.size w w' := by
  have hu3 := Try.underlying3
  have hu26 := Try.underlying26
  have hu30 := Try.underlying30
  refine E.enter (N := 16) Try.func32 rfl Try.ntmps32 (args := [wv V m, .slice A p.length c]) (by simp) ?_
  have L := Below.refl w.heap.size w
  refine E.CG.seq ?_
  refine E.CG.list ?_
  refine E.GL.st rfl rfl rfl (E.ST.box rfl rfl fun g2 w2 e2 b2 l2 => ?_)
  have h2_L : w.heap.size ≤ g2 := by rw [e2]; exact L.size
  replace L := below_step L l2
  refine E.GL.run rfl rfl rfl (E.Runs.assign rfl rfl) ?_
  refine E.GL.run rfl rfl rfl (E.Runs.assign rfl rfl) ?_
  refine E.GL.done ?_
  refine E.QG.code ?_
  refine E.CG.seq ?_
  refine E.CG.seq ?_
  refine E.CG.list ?_
  refine E.GL.run rfl rfl rfl (E.Runs.loads (cs := [.int .i64 V.d, .slice m.A V.rs.length m.a, .int .i64 V.h, .slice m.B V.fs.length m.b, .slice m.C V.ds.length m.c]) rfl rfl hu26 rfl info26s (blk_cells b2)) ?_
  refine E.GL.run rfl rfl rfl (E.Runs.move rfl rfl) ?_
  refine E.GL.st rfl rfl rfl (E.ST.call rfl ent48 (E.evc rfl (E.evc rfl E.evn)) ((checkP_o V m p A c _ (hV.below L) hs (Kd.C_below hp L) hpn).mono ?_))
  rintro e w9 ⟨rfl, l9⟩
  refine ⟨_, rfl, ?_⟩
  replace b2 := blk_below b2 l9
  replace L := below_step L l9
  refine E.GL.run rfl rfl rfl (E.Runs.assign rfl rfl) ?_
  refine E.GL.done ?_
  refine E.QG.code ?_
  refine E.CG.seq ?_
  refine E.CG.list ?_
  refine E.GL.run rfl rfl rfl (E.Runs.move rfl rfl) ?_
  refine E.GL.cmpn rfl rfl rfl (fun _ h => (E.Runs.neq rfl rfl rfl h)) (fun h11 => ?_) (fun h11 => ?_)
  · refine E.GL.done ?_
    refine E.QG.code ?_
    refine E.CG.cond_t rfl ?_
    refine E.CG.seq ?_
    refine E.CG.list ?_
    refine E.GL.run rfl rfl rfl (E.Runs.move rfl rfl) ?_
    refine E.GL.run rfl rfl rfl (E.Runs.assign rfl rfl) ?_
    refine E.GL.run rfl rfl rfl (E.Runs.assign rfl rfl) ?_
    refine E.GL.done ?_
    refine E.QG.code ?_
    refine E.CG.ret ?_
    refine E.QG.pass_ret ?_
    exact E.QG.result2 rfl rfl rfl ⟨by unfold tkA; rw [if_neg (by omega)], L⟩
  · have h0 := chkP_ok.mp (show chkP V p = 0 by omega)
    have ok := h0.1
    have hpl := h0.2.1
    have hds := ok.s.ds
    refine E.GL.done ?_
    refine E.QG.code ?_
    refine E.CG.cond_f rfl ?_
    refine E.CG.skip ?_
    refine E.QG.code ?_
    refine E.CG.seq ?_
    refine E.CG.list ?_
    refine E.GL.run rfl rfl rfl (E.Runs.loads (cs := [.int .i64 V.d, .slice m.A V.rs.length m.a, .int .i64 V.h, .slice m.B V.fs.length m.b, .slice m.C V.ds.length m.c]) rfl rfl hu26 rfl info26s (blk_cells b2)) ?_
    refine E.GL.run rfl rfl rfl (E.Runs.move rfl rfl) ?_
    refine E.GL.st rfl rfl rfl (E.ST.call rfl ent59 (E.evc rfl (E.evc rfl E.evn)) ((takings_o V m p A c _ ok.s (hV.below L) (Kd.C_below hp L) h0.2).mono ?_))
    rintro e w15 ⟨rfl, l15⟩
    refine ⟨_, rfl, ?_⟩
    replace b2 := blk_below b2 l15
    replace L := below_step L l15
    refine E.GL.run rfl rfl rfl (E.Runs.assign rfl rfl) ?_
    refine E.GL.run rfl rfl rfl (E.Runs.assign rfl rfl) ?_
    refine E.GL.done ?_
    refine E.QG.code ?_
    refine E.CG.ret ?_
    exact E.QG.result2 rfl rfl rfl ⟨by unfold tkA; rw [if_pos (chkP_ok.mpr h0), chkP_ok.mpr h0], L⟩

end Go.Proofs.Ytdiambcjghlffaa.T
namespace Go.Proofs.Ytdiambcjghlffaa.T
open Go.RowKit Go.Proofs.YtdiambcjghlffaaW.PrintWords Go.Proofs.YtdiambcjghlffaaW.PrintMore
open Go.Proofs.Ytdiambcjghlffaa.P
set_option linter.unusedVariables false
set_option linter.unusedSimpArgs false
def sm (f : Nat → Nat) : Nat → Nat
  | 0 => 0
  | n + 1 => sm f n + f n
theorem sm_congr {f g : Nat → Nat} : ∀ {n : Nat}, (∀ i, i < n → f i = g i) → sm f n = sm g n
  | 0, _ => rfl
  | n + 1, h => by rw [sm, sm, sm_congr fun i hi => h i (by omega), h n (by omega)]
def hb (V : Wk) (x : S45) (p : List Int) (day h r : Nat) : Nat := if hit V x p day h r = true then 1 else 0
/-- How many hours, of some days, on some screens. -/
def c1 (V : Wk) (x : S45) (p : List Int) (day b r : Nat) (nh : Nat) : Nat := sm (fun k => hb V x p day (b + k) r) nh
def c2 (V : Wk) (x : S45) (p : List Int) (day b c : Nat) (nh ns : Nat) : Nat := sm (fun j => c1 V x p day b (c + j) nh) ns
def c3 (V : Wk) (x : S45) (p : List Int) (a b c : Nat) (nh ns nd : Nat) : Nat := sm (fun i => c2 V x p (a + i) b c nh ns) nd
theorem shN_sm (V : Wk) (x : S45) (p : List Int) (day h : Nat) : ∀ r, shN V x p day h r = sm (fun j => hb V x p day h j) r
  | 0 => rfl
  | r + 1 => by rw [shN, sm, shN_sm V x p day h r]; rfl
theorem hsN_sm (V : Wk) (x : S45) (p : List Int) (day : Nat) : ∀ k, hsN V x p day k = sm (fun j => sh V x p day (x.f4.toNat + j)) k
  | 0 => rfl
  | k + 1 => by rw [hsN, sm, hsN_sm V x p day k]
theorem dsN_sm (V : Wk) (x : S45) (p : List Int) : ∀ n, dsN V x p n = sm (fun i => hsN V x p (x.f2.toNat + i) (nH x)) n
  | 0 => rfl
  | n + 1 => by rw [dsN, sm, dsN_sm V x p n]; rfl
end Go.Proofs.Ytdiambcjghlffaa.T
namespace Go.Proofs.Ytdiambcjghlffaa.T
open Go.RowKit Go.Proofs.YtdiambcjghlffaaW.PrintWords Go.Proofs.YtdiambcjghlffaaW.PrintMore
open Go.Proofs.Ytdiambcjghlffaa.P
set_option linter.unusedVariables false
set_option linter.unusedSimpArgs false

end Go.Proofs.Ytdiambcjghlffaa.T
namespace Go.Proofs.Ytdiambcjghlffaa.T
open Go.RowKit Go.Proofs.YtdiambcjghlffaaW.PrintWords Go.Proofs.YtdiambcjghlffaaW.PrintMore
open Go.Proofs.Ytdiambcjghlffaa.P
set_option linter.unusedVariables false
set_option linter.unusedSimpArgs false

end Go.Proofs.Ytdiambcjghlffaa.T
namespace Go.Proofs.Ytdiambcjghlffaa.T
open Go.RowKit Go.Proofs.YtdiambcjghlffaaW.PrintWords Go.Proofs.YtdiambcjghlffaaW.PrintMore
open Go.Proofs.Ytdiambcjghlffaa.P
set_option linter.unusedVariables false
set_option linter.unusedSimpArgs false

end Go.Proofs.Ytdiambcjghlffaa.T
namespace Go.Proofs.Ytdiambcjghlffaa.E
open Go.RowKit Go.Proofs.YtdiambcjghlffaaW.PrintWords Go.Proofs.YtdiambcjghlffaaW.PrintMore
open Go.Proofs.Ytdiambcjghlffaa.T
set_option linter.unusedVariables false
set_option linter.unusedSimpArgs false
section
variable {P : Program} {Q : Exit → Act → World → Prop} {N : Nat} {w : World} {env : Env} {o : Oper} {K : Value → World → Prop}
theorem ST.makeC {t e : TypeId} {x y : Operand} {z : Value} {m bytes : Nat} (ho : o.op = .makeSlice t x y) (hx : Ev env x (.int .i64 (m : Int))) (hy : Ev env y (.int .i64 (m : Int))) (ht : P.underlying t = some (.slice e)) (hinfo : (P.info? e).map (fun i => (i.zero, i.size, i.bytes)) = some (some z, 1, bytes)) (hz : z.cells = #[z]) (hb : bytes ≤ 64) (hm : m ≤ 1000000)
    (h : ∀ g w1, g = w.heap.size → w1.heap[g]? = some (.cells (List.replicate m z).toArray e (0, 0)) → Below w.heap.size w w1 → K (.slice (some ⟨g, 0, none⟩) m m) w1) : ST P Q N env w o K := by
  obtain ⟨i0, hi, hzz⟩ := Option.map_eq_some_iff.1 hinfo
  simp only [Prod.mk.injEq] at hzz
  obtain ⟨hz0, hz1, hz2⟩ := hzz
  have hmb : bytes * m ≤ 64 * 1000000 := Nat.mul_le_mul hb hm
  have hr := run_make (P := P) w t e i0 z ht hi hz0 .i64 .i64 (m : Int) (m : Int) (by omega) (by omega) (by rw [hz2]; omega) (by omega)
  simp only [Int.toNat_natCast] at hr
  rw [hz1, Nat.mul_one, hz] at hr
  refine ST.ev (v := .slice (some ⟨w.heap.size, 0, none⟩) m m) (w1 := w.alloc (.cells (madeCells #[z] m) e (0, 0))) (fun a ha => ?_) (h _ _ rfl ?_ (below_alloc (Below.refl _ _) _))
  · unfold execOp; rw [ho]; simp only []; rw [ha.eval hx, ha.eval hy]
    simp [go_sem, hr]
  · have : madeCells #[z] m = (List.replicate m z).toArray := by
      apply Array.ext
      · simp [size_madeCells]
      · intro j h1 h2
        simp [madeCells, Nat.mod_one]
    rw [← this]
    exact blk_new w _
theorem u64_in (v : Int) (h : 0 ≤ v ∧ v ≤ 18446744073709551615) : IntKind.u64.wrap v = v := by
  simp [IntKind.wrap, IntKind.bits, IntKind.signed]
  omega
theorem Runs.low32 {t u : TypeId} {x y : Operand} {a : Nat} (ho : o.op = .binOp .and t x y u) (hx : Ev env x (.int .u64 a)) (hy : Ev env y (.int .u64 4294967295)) (ha : a < 2 ^ 32) : Runs P N env o w (.int .u64 a) := by
  have h := Runs.and (P := P) (N := N) (w := w) (b := 4294967295) (.inl rfl) ho hx hy ha (by decide)
  have e : a &&& 4294967295 = a := by
    have := Nat.and_two_pow_sub_one_eq_mod a 32
    rw [show 2 ^ 32 - 1 = 4294967295 from rfl] at this
    rw [this, Nat.mod_eq_of_lt ha]
  rwa [e] at h
theorem Runs.hi32 {t u : TypeId} {x y : Operand} {k' : IntKind} {a : Nat} (ho : o.op = .binOp .shr t x y u) (hx : Ev env x (.int .u64 a)) (hy : Ev env y (.int k' 32)) (ha : a < 2 ^ 32) : Runs P N env o w (.int .u64 0) := by
  have h := Runs.shr (P := P) (N := N) (w := w) (n := 32) (.inl rfl) ho hx hy (by decide)
  rw [Nat.div_eq_of_lt ha] at h
  exact h
end
end Go.Proofs.Ytdiambcjghlffaa.E
