/- Cases: what is within the bounds. -/
import Derived.Test.YthdbkhdiaehblaaT28
namespace Go.Proofs.Ythdbkhdiaehblaa.T
open Go.RowKit Go.Proofs.YthdbkhdiaehblaaW.PrintWords Go.Proofs.YthdbkhdiaehblaaW.PrintMore
open Go.Proofs.Ythdbkhdiaehblaa.P
set_option linter.unusedVariables false
set_option maxRecDepth 100000 in
theorem bool_equal (b c : Bool) (W : World) : (Op.equal 4 (.bool b) (.bool c)).run Try.prog W = .ok (b == c) W := by
  have hu4 := Try.underlying4
  unfold Op.equal
  have h : Op.maxDepth = (Op.maxDepth - 1) + 1 := rfl
  rw [h]
  generalize Op.maxDepth - 1 = d
  simp [Op.equalIn, Sem.run_bind, run_underlying hu4]
/-- A case is within the bounds. -/
def CaseOk (H : Hs) (l : List S36) (rs cs : List Int) (ra : Int) : Prop :=
  rs.length = l.length ∧ cs.length = l.length ∧ (H.dl ≤ ra ∧ ra ≤ H.dh) ∧ ∀ (i : Nat) (s : S36) (a b : Int), l[i]? = some s → rs[i]? = some a → cs[i]? = some b → (s.f2.f0 ≤ a ∧ a ≤ s.f2.f1) ∧ (H.cl ≤ b ∧ b ≤ H.ch)

set_option maxRecDepth 100000 in

theorem in_row (lo hi n : Int) (b : Bool) (h : b = true ↔ lo ≤ n ∧ n ≤ hi) (w : World) :
    Calls Try.prog 25 #[.agg #[.int .i64 lo, .int .i64 hi], .int .i64 n] w fun e w' => e = .returned (.bool b) ∧ Below w.heap.size w w' := by
  have hu3 := Try.underlying3
  have hu23 := Try.underlying23
  obtain ⟨z3, o3⟩ := info_some info3s (by decide)
  refine E.enter (N := 15) Try.func25 rfl Try.ntmps25 (args := [.agg #[.int .i64 lo, .int .i64 hi], .int .i64 n]) (by simp) ?_
  have L := Below.refl w.heap.size w
  refine E.CG.seq ?_
  refine E.CG.list ?_
  refine E.GL.st rfl rfl rfl (E.ST.box rfl rfl fun g2 w2 e2 b2 l2 => ?_)
  have h2_L : w.heap.size ≤ g2 := by rw [e2]; exact L.size
  replace L := below_step L l2
  refine E.GL.run rfl rfl rfl (E.Runs.assign rfl rfl) ?_
  refine E.GL.done ?_
  refine E.QG.code ?_
  refine E.CG.seq ?_
  refine E.CG.list ?_
  refine E.GL.run rfl rfl rfl (E.Runs.fieldAddr rfl rfl hu23 rfl (by assumption) rfl) ?_
  refine E.GL.run rfl rfl rfl (E.Runs.load rfl rfl hu3 (by first | assumption | exact E.blkc (by assumption) rfl | exact pw_cell_below L (by assumption))) ?_
  refine E.GL.run rfl rfl rfl (E.Runs.move rfl rfl) ?_
  refine E.GL.cmp rfl rfl rfl (fun _ h => (E.Runs.leq rfl rfl rfl h)) (fun h8 => ?_) (fun h8 => ?_)
  · refine E.GL.run rfl rfl rfl (E.Runs.move rfl rfl) ?_
    refine E.GL.run rfl rfl rfl (E.Runs.move rfl rfl) ?_
    refine E.GL.run rfl rfl rfl (E.Runs.fieldAddr rfl rfl hu23 rfl (by assumption) rfl) ?_
    refine E.GL.run rfl rfl rfl (E.Runs.load rfl rfl hu3 (by first | assumption | exact E.blkc (by assumption) rfl | exact pw_cell_below L (by assumption))) ?_
    refine E.GL.cmp rfl rfl rfl (fun _ h => (E.Runs.leq rfl rfl rfl h)) (fun h13 => ?_) (fun h13 => ?_)
    · refine E.GL.run rfl rfl rfl (E.Runs.pick_t rfl rfl rfl) ?_
      refine E.GL.run rfl rfl rfl (E.Runs.assign rfl rfl) ?_
      refine E.GL.done ?_
      refine E.QG.code ?_
      refine E.CG.ret ?_
      exact E.QG.result rfl rfl ⟨by first | rw [h.mpr ⟨by omega, by omega⟩] | (rw [show b = false from Bool.eq_false_iff.mpr fun hb => by have := h.mp hb; omega]), L⟩
    · refine E.GL.run rfl rfl rfl (E.Runs.pick_t rfl rfl rfl) ?_
      refine E.GL.run rfl rfl rfl (E.Runs.assign rfl rfl) ?_
      refine E.GL.done ?_
      refine E.QG.code ?_
      refine E.CG.ret ?_
      exact E.QG.result rfl rfl ⟨by first | rw [h.mpr ⟨by omega, by omega⟩] | (rw [show b = false from Bool.eq_false_iff.mpr fun hb => by have := h.mp hb; omega]), L⟩
  · refine E.GL.run rfl rfl rfl (E.Runs.move rfl rfl) ?_
    refine E.GL.skip rfl rfl rfl ?_
    refine E.GL.skip rfl rfl rfl ?_
    refine E.GL.skip rfl rfl rfl ?_
    refine E.GL.skip rfl rfl rfl ?_
    refine E.GL.run rfl rfl rfl (E.Runs.pick_f rfl rfl rfl) ?_
    refine E.GL.run rfl rfl rfl (E.Runs.assign rfl rfl) ?_
    refine E.GL.done ?_
    refine E.QG.code ?_
    refine E.CG.ret ?_
    exact E.QG.result rfl rfl ⟨by first | rw [h.mpr ⟨by omega, by omega⟩] | (rw [show b = false from Bool.eq_false_iff.mpr fun hb => by have := h.mp hb; omega]), L⟩

set_option maxRecDepth 100000 in
set_option maxHeartbeats 40000000 in

theorem case_row (H : Hs) (l : List S36) (rs cs : List Int) (ra : Int) (A1 Ar Ac : Option Addr) (c1 cr cc : Nat) (w : World) (b : Bool) (h : b = true ↔ CaseOk H l rs cs ra) (hn : l.length ≤ 100)
    (hr : Kd.C k36 w A1 l.length l) (hc : l.length ≤ c1) (hR : Kd.C (Kd.int .i64) w Ar rs.length rs) (hC : Kd.C (Kd.int .i64) w Ac cs.length cs) :
    Calls Try.prog 22 #[hv H, .slice A1 l.length c1, .agg #[.slice Ar rs.length cr, .slice Ac cs.length cc, .int .i64 ra]] w fun e w' => e = .returned (.bool b) ∧ Below w.heap.size w w' := by
  have hu3 := Try.underlying3
  have hu23 := Try.underlying23
  have hu25 := Try.underlying25
  have hu26 := Try.underlying26
  have hu36 := Try.underlying36
  have hu47 := Try.underlying47
  have hu49 := Try.underlying49
  obtain ⟨z3, o3⟩ := info_some info3s (by decide)
  obtain ⟨z23, o23⟩ := info_some info23s (by decide)
  obtain ⟨z36, o36⟩ := info_some info36s (by decide)
  obtain ⟨z47, o47⟩ := info_some info47s (by decide)
  refine E.enter (N := 74) Try.func22 rfl Try.ntmps22 (args := [hv H, .slice A1 l.length c1, .agg #[.slice Ar rs.length cr, .slice Ac cs.length cc, .int .i64 ra]]) (by simp) ?_
  have L := Below.refl w.heap.size w
  refine E.CG.seq ?_
  refine E.CG.list ?_
  refine E.GL.st rfl rfl rfl (E.ST.box rfl rfl fun g3 w3 e3 b3 l3 => ?_)
  have h3_L : w.heap.size ≤ g3 := by rw [e3]; exact L.size
  replace L := below_step L l3
  refine E.GL.st rfl rfl rfl (E.ST.box rfl rfl fun g5 w5 e5 b5 l5 => ?_)
  have h5_L : w.heap.size ≤ g5 := by rw [e5]; exact L.size
  have n5_b3 : g3 ≠ g5 := by have := blk_lt b3; omega
  replace b3 := blk_below b3 l5
  replace L := below_step L l5
  refine E.GL.run rfl rfl rfl (E.Runs.assign rfl rfl) ?_
  refine E.GL.done ?_
  refine E.QG.code ?_
  refine E.CG.seq ?_
  refine E.CG.seq ?_
  refine E.CG.list ?_
  refine E.GL.run rfl rfl rfl (E.Runs.fieldAddr rfl rfl hu49 rfl (by assumption) rfl) ?_
  refine E.GL.run rfl rfl rfl (E.Runs.load1 rfl rfl hu47 rfl (by first | assumption | exact E.blkc (by assumption) rfl | exact pw_cell_below L (by assumption))) ?_
  refine E.GL.run rfl rfl rfl (E.Runs.len rfl rfl hu47) ?_
  refine E.GL.run rfl rfl rfl (E.Runs.move rfl rfl) ?_
  refine E.GL.run rfl rfl rfl (E.Runs.len rfl rfl hu26) ?_
  refine E.GL.cmpn rfl rfl rfl (fun _ h => (E.Runs.neq rfl rfl rfl h)) (fun h13 => ?_) (fun h13 => ?_)
  · refine E.GL.run rfl rfl rfl (E.Runs.move rfl rfl) ?_
    refine E.GL.skip rfl rfl rfl ?_
    refine E.GL.skip rfl rfl rfl ?_
    refine E.GL.skip rfl rfl rfl ?_
    refine E.GL.skip rfl rfl rfl ?_
    refine E.GL.skip rfl rfl rfl ?_
    refine E.GL.skip rfl rfl rfl ?_
    refine E.GL.run rfl rfl rfl (E.Runs.pick_t rfl rfl rfl) ?_
    refine E.GL.run rfl rfl rfl (E.Runs.move rfl rfl) ?_
    refine E.GL.skip rfl rfl rfl ?_
    refine E.GL.skip rfl rfl rfl ?_
    refine E.GL.skip rfl rfl rfl ?_
    refine E.GL.skip rfl rfl rfl ?_
    refine E.GL.skip rfl rfl rfl ?_
    refine E.GL.skip rfl rfl rfl ?_
    refine E.GL.skip rfl rfl rfl ?_
    refine E.GL.skip rfl rfl rfl ?_
    refine E.GL.skip rfl rfl rfl ?_
    refine E.GL.skip rfl rfl rfl ?_
    refine E.GL.run rfl rfl rfl (E.Runs.pick_t rfl rfl rfl) ?_
    refine E.GL.done ?_
    refine E.QG.code ?_
    refine E.CG.cond_t rfl ?_
    refine E.CG.seq ?_
    refine E.CG.list ?_
    refine E.GL.run rfl rfl rfl (E.Runs.assign rfl rfl) ?_
    refine E.GL.done ?_
    refine E.QG.code ?_
    refine E.CG.ret ?_
    refine E.QG.pass_ret ?_
    exact E.QG.result rfl rfl ⟨by rw [show b = false from Bool.eq_false_iff.mpr fun hb' => h13 (by have := (h.mp hb').1; omega)], L⟩
  · refine E.GL.run rfl rfl rfl (E.Runs.move rfl rfl) ?_
    refine E.GL.run rfl rfl rfl (E.Runs.fieldAddr rfl rfl hu49 rfl (by assumption) rfl) ?_
    refine E.GL.run rfl rfl rfl (E.Runs.load1 rfl rfl hu47 rfl (by first | assumption | exact E.blkc (by assumption) rfl | exact pw_cell_below L (by assumption))) ?_
    refine E.GL.run rfl rfl rfl (E.Runs.len rfl rfl hu47) ?_
    refine E.GL.run rfl rfl rfl (E.Runs.move rfl rfl) ?_
    refine E.GL.run rfl rfl rfl (E.Runs.len rfl rfl hu26) ?_
    refine E.GL.cmpn rfl rfl rfl (fun _ h => (E.Runs.neq rfl rfl rfl h)) (fun h20 => ?_) (fun h20 => ?_)
    · refine E.GL.run rfl rfl rfl (E.Runs.pick_f rfl rfl rfl) ?_
      refine E.GL.run rfl rfl rfl (E.Runs.move rfl rfl) ?_
      refine E.GL.skip rfl rfl rfl ?_
      refine E.GL.skip rfl rfl rfl ?_
      refine E.GL.skip rfl rfl rfl ?_
      refine E.GL.skip rfl rfl rfl ?_
      refine E.GL.skip rfl rfl rfl ?_
      refine E.GL.skip rfl rfl rfl ?_
      refine E.GL.skip rfl rfl rfl ?_
      refine E.GL.skip rfl rfl rfl ?_
      refine E.GL.skip rfl rfl rfl ?_
      refine E.GL.skip rfl rfl rfl ?_
      refine E.GL.run rfl rfl rfl (E.Runs.pick_t rfl rfl rfl) ?_
      refine E.GL.done ?_
      refine E.QG.code ?_
      refine E.CG.cond_t rfl ?_
      refine E.CG.seq ?_
      refine E.CG.list ?_
      refine E.GL.run rfl rfl rfl (E.Runs.assign rfl rfl) ?_
      refine E.GL.done ?_
      refine E.QG.code ?_
      refine E.CG.ret ?_
      refine E.QG.pass_ret ?_
      exact E.QG.result rfl rfl ⟨by rw [show b = false from Bool.eq_false_iff.mpr fun hb' => h20 (by have := (h.mp hb').2.1; omega)], L⟩
    · refine E.GL.run rfl rfl rfl (E.Runs.pick_f rfl rfl rfl) ?_
      refine E.GL.run rfl rfl rfl (E.Runs.move rfl rfl) ?_
      refine E.GL.run rfl rfl rfl (E.Runs.fieldAddr rfl rfl hu49 rfl (by assumption) rfl) ?_
      refine E.GL.run rfl rfl rfl (E.Runs.load rfl rfl hu3 (by first | assumption | exact E.blkc (by assumption) rfl | exact pw_cell_below L (by assumption))) ?_
      refine E.GL.run rfl rfl rfl (E.Runs.fieldAddr rfl rfl hu25 rfl (by assumption) rfl) ?_
      refine E.GL.run rfl rfl rfl (E.Runs.fieldAddr rfl rfl hu23 rfl (by assumption) rfl) ?_
      refine E.GL.run rfl rfl rfl (E.Runs.load rfl rfl hu3 (by first | assumption | exact E.blkc (by assumption) rfl | exact pw_cell_below L (by assumption))) ?_
      refine E.GL.run rfl rfl rfl (E.Runs.fieldAddr rfl rfl hu25 rfl (by assumption) rfl) ?_
      refine E.GL.run rfl rfl rfl (E.Runs.fieldAddr rfl rfl hu23 rfl (by assumption) rfl) ?_
      refine E.GL.run rfl rfl rfl (E.Runs.load rfl rfl hu3 (by first | assumption | exact E.blkc (by assumption) rfl | exact pw_cell_below L (by assumption))) ?_
      by_cases h31 : H.dl ≤ ra ∧ ra ≤ H.dh
      · refine E.GL.st rfl rfl rfl (E.ST.call rfl ent44 (E.evc rfl (E.evc rfl (E.evc rfl E.evn))) ((within_row ra H.dl H.dh true (iff_of_true rfl h31) _).mono ?_))
        rintro e w31 ⟨rfl, l31⟩
        refine ⟨_, rfl, ?_⟩
        replace b3 := blk_below b3 l31
        replace b5 := blk_below b5 l31
        replace L := below_step L l31
        refine E.GL.run rfl rfl rfl (E.Runs.not rfl rfl) ?_
        refine E.GL.run rfl rfl rfl (E.Runs.pick_f rfl rfl rfl) ?_
        refine E.GL.done ?_
        refine E.QG.code ?_
        refine E.CG.cond_f rfl ?_
        refine E.CG.skip ?_
        refine E.QG.code ?_
        refine E.CG.seq ?_
        refine E.CG.seq ?_
        refine E.CG.list ?_
        refine E.GL.run rfl rfl rfl (E.Runs.assign rfl rfl) ?_
        refine E.GL.done ?_
        refine E.QG.code ?_
        refine E.CG.block ?_
        have s4_b3 := b3
        have s4_b5 := b5
        have s4_L := L
        refine E.CG.loop (fun (i : Nat) => [(1, .slice A1 l.length c1), (3, .pointer (some ⟨g3, 0, none⟩)), (5, .pointer (some ⟨g5, 0, none⟩)), (7, .int .i64 i)]) (fun i w' => i ≤ l.length ∧ Below w31.heap.size w31 w' ∧ ∀ (j : Nat) (s : S36) (a b : Int), j < i → l[j]? = some s → rs[j]? = some a → cs[j]? = some b → (s.f2.f0 ≤ a ∧ a ≤ s.f2.f1) ∧ (H.cl ≤ b ∧ b ≤ H.ch)) (fun i => l.length - i) 0 (E.subc rfl (E.subc rfl (E.subc rfl (E.subc rfl (E.subn))))) ⟨Nat.zero_le _, Below.refl _ _, fun j s a b hj => absurd hj (Nat.not_lt_zero _)⟩ ?_
        rintro i w4 ⟨hi, lq, hp⟩
        replace b3 := blk_below b3 lq
        replace b5 := blk_below b5 lq
        replace L := below_step L lq
        refine E.CG.seq ?_
        refine E.CG.seq ?_
        refine E.CG.list ?_
        refine E.GL.run rfl rfl rfl (E.Runs.move rfl rfl) ?_
        refine E.GL.run rfl rfl rfl (E.Runs.move rfl rfl) ?_
        refine E.GL.run rfl rfl rfl (E.Runs.len rfl rfl hu26) ?_
        refine E.GL.cmp rfl rfl rfl (fun _ h => (E.Runs.lss rfl rfl rfl h)) (fun h37 => ?_) (fun h37 => ?_)
        · have hlt : i < l.length := by omega
          obtain ⟨s, hs⟩ : ∃ s, l[i]? = some s := ⟨_, List.getElem?_eq_getElem hlt⟩
          obtain ⟨a, ha⟩ : ∃ a, rs[i]? = some a := ⟨_, List.getElem?_eq_getElem (by omega)⟩
          obtain ⟨d, hd⟩ : ∃ b, cs[i]? = some b := ⟨_, List.getElem?_eq_getElem (by omega)⟩
          have hrl : (i : Int) < (rs.length : Int) := by omega
          have hcl : (i : Int) < (cs.length : Int) := by omega
          obtain ⟨ad, eA, S⟩ := slot_at hr hs
          obtain ⟨aa, eR, yr⟩ := int_at hR ha
          obtain ⟨ab, eC, yc⟩ := int_at hC hd
          subst eA eR eC
          refine E.GL.done ?_
          refine E.QG.code ?_
          refine E.CG.cond_t rfl ?_
          refine E.CG.skip ?_
          refine E.QG.code ?_
          refine E.CG.seq ?_
          refine E.CG.block ?_
          refine E.CG.seq ?_
          refine E.CG.heldH (none) (by kernel_rfl) fun v6 lD hh => ?_
          replace b3 := blk_below b3 lD
          replace b5 := blk_below b5 lD
          replace L := below_step L lD
          replace lq := below_step lq lD
          clear lD
          have s_b3 := b3
          have s_b5 := b5
          have s_L := L
          have s_lq := lq
          refine E.GH.take (i := 0) rfl (by kernel_rfl) (by kernel_rfl) (by kernel_rfl) (by intro c a d v w h; cases d <;> exact h) rfl rfl rfl (fun w' hS => (E.Runs.fieldAddr rfl rfl hu49 rfl (by assumption) rfl)) ?_
          refine E.GH.take (i := 1) rfl (by kernel_rfl) (by kernel_rfl) (by kernel_rfl) (by intro c a d v w h; cases d <;> exact h) rfl rfl rfl (fun w' hS => (E.Runs.load1 rfl rfl hu47 rfl (by first | exact E.keeps hS (E.blkc (by assumption) rfl) (by first | exact E.nen | exact E.nes (by assumption) | exact E.nes (Ne.symm (by assumption))) | exact pw_cell_below (below_step s_L (E.belowG hS)) (by assumption) | exact pw_cell_below (below_step s_L (E.belowG hS)) S.c0 | exact pw_cell_below (below_step s_L (E.belowG hS)) S.c1 | exact pw_cell_below (below_step s_L (E.belowG hS)) S.c2 | exact pw_cell_below (below_step s_L (E.belowG hS)) S.c3 | exact pw_cell_below (below_step s_L (E.belowG hS)) S.c4 | exact pw_cell_below (below_step s_L (E.belowG hS)) S.c5 | exact pw_cell_below (below_step s_lq (E.belowG hS)) (by assumption)))) ?_
          refine E.GH.take (i := 2) rfl (by kernel_rfl) (by kernel_rfl) (by kernel_rfl) (by intro c a d v w h; cases d <;> exact h) rfl rfl rfl (fun w' hS => (E.Runs.move rfl rfl)) ?_
          refine E.GH.take (i := 3) rfl (by kernel_rfl) (by kernel_rfl) (by kernel_rfl) (by intro c a d v w h; cases d <;> exact h) rfl rfl rfl (fun w' hS => (E.Runs.indexAddrA rfl rfl rfl hu47 (by assumption) (by assumption) (by assumption) (by first | rfl | assumption) rfl)) ?_
          refine E.GH.take (i := 4) rfl (by kernel_rfl) (by kernel_rfl) (by kernel_rfl) (by intro c a d v w h; cases d <;> exact h) rfl rfl rfl (fun w' hS => (E.Runs.load rfl rfl hu3 (by first | exact E.keeps hS (E.blkc (by assumption) rfl) (by first | exact E.nen | exact E.nes (by assumption) | exact E.nes (Ne.symm (by assumption))) | exact pw_cell_below (below_step s_L (E.belowG hS)) (by assumption) | exact pw_cell_below (below_step s_L (E.belowG hS)) S.c0 | exact pw_cell_below (below_step s_L (E.belowG hS)) S.c1 | exact pw_cell_below (below_step s_L (E.belowG hS)) S.c2 | exact pw_cell_below (below_step s_L (E.belowG hS)) S.c3 | exact pw_cell_below (below_step s_L (E.belowG hS)) S.c4 | exact pw_cell_below (below_step s_L (E.belowG hS)) S.c5 | exact pw_cell_below (below_step s_lq (E.belowG hS)) (by assumption)))) ?_
          refine E.GH.take (i := 5) rfl (by kernel_rfl) (by kernel_rfl) (by kernel_rfl) (by intro c a d v w h; cases d <;> exact h) rfl rfl rfl (fun w' hS => (E.Runs.move rfl rfl)) ?_
          refine E.GH.take (i := 6) rfl (by kernel_rfl) (by kernel_rfl) (by kernel_rfl) (by intro c a d v w h; cases d <;> exact h) rfl rfl rfl (fun w' hS => (E.Runs.move rfl rfl)) ?_
          refine E.GH.take (i := 7) rfl (by kernel_rfl) (by kernel_rfl) (by kernel_rfl) (by intro c a d v w h; cases d <;> exact h) rfl rfl rfl (fun w' hS => (E.Runs.indexAddrA rfl rfl rfl hu26 (by assumption) (by assumption) (by assumption) (by first | rfl | assumption) rfl)) ?_
          refine E.GH.take (i := 8) rfl (by kernel_rfl) (by kernel_rfl) (by kernel_rfl) (by intro c a d v w h; cases d <;> exact h) rfl rfl rfl (fun w' hS => (E.Runs.fieldAddr rfl rfl hu36 rfl (by assumption) rfl)) ?_
          refine E.GH.take (i := 9) rfl (by kernel_rfl) (by kernel_rfl) (by kernel_rfl) (by intro c a d v w h; cases d <;> exact h) rfl rfl rfl (fun w' hS => (E.Runs.fieldAddr rfl rfl hu23 rfl (by assumption) rfl)) ?_
          refine E.GH.take (i := 10) rfl (by kernel_rfl) (by kernel_rfl) (by kernel_rfl) (by intro c a d v w h; cases d <;> exact h) rfl rfl rfl (fun w' hS => (E.Runs.load rfl rfl hu3 (by first | exact E.keeps hS (E.blkc (by assumption) rfl) (by first | exact E.nen | exact E.nes (by assumption) | exact E.nes (Ne.symm (by assumption))) | exact pw_cell_below (below_step s_L (E.belowG hS)) (by assumption) | exact pw_cell_below (below_step s_L (E.belowG hS)) S.c0 | exact pw_cell_below (below_step s_L (E.belowG hS)) S.c1 | exact pw_cell_below (below_step s_L (E.belowG hS)) S.c2 | exact pw_cell_below (below_step s_L (E.belowG hS)) S.c3 | exact pw_cell_below (below_step s_L (E.belowG hS)) S.c4 | exact pw_cell_below (below_step s_L (E.belowG hS)) S.c5 | exact pw_cell_below (below_step s_lq (E.belowG hS)) (by assumption)))) ?_
          refine E.GH.take (i := 11) rfl (by kernel_rfl) (by kernel_rfl) (by kernel_rfl) (by intro c a d v w h; cases d <;> exact h) rfl rfl rfl (fun w' hS => (E.Runs.move rfl rfl)) ?_
          refine E.GH.take (i := 12) rfl (by kernel_rfl) (by kernel_rfl) (by kernel_rfl) (by intro c a d v w h; cases d <;> exact h) rfl rfl rfl (fun w' hS => (E.Runs.move rfl rfl)) ?_
          refine E.GH.take (i := 13) rfl (by kernel_rfl) (by kernel_rfl) (by kernel_rfl) (by intro c a d v w h; cases d <;> exact h) rfl rfl rfl (fun w' hS => (E.Runs.indexAddrA rfl rfl rfl hu26 (by assumption) (by assumption) (by assumption) (by first | rfl | assumption) rfl)) ?_
          refine E.GH.take (i := 14) rfl (by kernel_rfl) (by kernel_rfl) (by kernel_rfl) (by intro c a d v w h; cases d <;> exact h) rfl rfl rfl (fun w' hS => (E.Runs.fieldAddr rfl rfl hu36 rfl (by assumption) rfl)) ?_
          refine E.GH.take (i := 15) rfl (by kernel_rfl) (by kernel_rfl) (by kernel_rfl) (by intro c a d v w h; cases d <;> exact h) rfl rfl rfl (fun w' hS => (E.Runs.fieldAddr rfl rfl hu23 rfl (by assumption) rfl)) ?_
          refine E.GH.take (i := 16) rfl (by kernel_rfl) (by kernel_rfl) (by kernel_rfl) (by intro c a d v w h; cases d <;> exact h) rfl rfl rfl (fun w' hS => (E.Runs.load rfl rfl hu3 (by first | exact E.keeps hS (E.blkc (by assumption) rfl) (by first | exact E.nen | exact E.nes (by assumption) | exact E.nes (Ne.symm (by assumption))) | exact pw_cell_below (below_step s_L (E.belowG hS)) (by assumption) | exact pw_cell_below (below_step s_L (E.belowG hS)) S.c0 | exact pw_cell_below (below_step s_L (E.belowG hS)) S.c1 | exact pw_cell_below (below_step s_L (E.belowG hS)) S.c2 | exact pw_cell_below (below_step s_L (E.belowG hS)) S.c3 | exact pw_cell_below (below_step s_L (E.belowG hS)) S.c4 | exact pw_cell_below (below_step s_L (E.belowG hS)) S.c5 | exact pw_cell_below (below_step s_lq (E.belowG hS)) (by assumption)))) ?_
          by_cases h57 : s.f2.f0 ≤ a ∧ a ≤ s.f2.f1
          · refine E.GH.one (i := 17) (by kernel_rfl) rfl ?_
            refine E.GO.st rfl rfl rfl (E.ST.call rfl ent44 (E.evc rfl (E.evc rfl (E.evc rfl E.evn))) ((within_row a s.f2.f0 s.f2.f1 true (iff_of_true rfl h57) _).mono ?_))
            rintro e w57 ⟨rfl, l57⟩
            refine ⟨_, rfl, hh.trans (E.gbB l57), ?_⟩
            replace hh := hh.trans (E.gbB l57)
            replace b3 := blk_below b3 l57
            replace b5 := blk_below b5 l57
            replace L := below_step L l57
            replace lq := below_step lq l57
            refine E.GH.take (i := 18) rfl (by kernel_rfl) (by kernel_rfl) (by kernel_rfl) (by intro c a d v w h; cases d <;> exact h) rfl rfl rfl (fun w' hS => (E.Runs.not rfl rfl)) ?_
            refine E.GH.take (i := 19) rfl (by kernel_rfl) (by kernel_rfl) (by kernel_rfl) (by intro c a d v w h; cases d <;> exact h) rfl rfl rfl (fun w' hS => (E.Runs.move rfl rfl)) ?_
            refine E.GH.take (i := 20) rfl (by kernel_rfl) (by kernel_rfl) (by kernel_rfl) (by intro c a d v w h; cases d <;> exact h) rfl rfl rfl (fun w' hS => (E.Runs.fieldAddr rfl rfl hu49 rfl (by assumption) rfl)) ?_
            refine E.GH.take (i := 21) rfl (by kernel_rfl) (by kernel_rfl) (by kernel_rfl) (by intro c a d v w h; cases d <;> exact h) rfl rfl rfl (fun w' hS => (E.Runs.load1 rfl rfl hu47 rfl (by first | exact E.keeps hS (E.blkc (by assumption) rfl) (by first | exact E.nen | exact E.nes (by assumption) | exact E.nes (Ne.symm (by assumption))) | exact pw_cell_below (below_step s_L (E.belowG hS)) (by assumption) | exact pw_cell_below (below_step s_L (E.belowG hS)) S.c0 | exact pw_cell_below (below_step s_L (E.belowG hS)) S.c1 | exact pw_cell_below (below_step s_L (E.belowG hS)) S.c2 | exact pw_cell_below (below_step s_L (E.belowG hS)) S.c3 | exact pw_cell_below (below_step s_L (E.belowG hS)) S.c4 | exact pw_cell_below (below_step s_L (E.belowG hS)) S.c5 | exact pw_cell_below (below_step s_lq (E.belowG hS)) (by assumption)))) ?_
            refine E.GH.take (i := 22) rfl (by kernel_rfl) (by kernel_rfl) (by kernel_rfl) (by intro c a d v w h; cases d <;> exact h) rfl rfl rfl (fun w' hS => (E.Runs.move rfl rfl)) ?_
            refine E.GH.take (i := 23) rfl (by kernel_rfl) (by kernel_rfl) (by kernel_rfl) (by intro c a d v w h; cases d <;> exact h) rfl rfl rfl (fun w' hS => (E.Runs.indexAddrA rfl rfl rfl hu47 (by assumption) (by assumption) (by assumption) (by first | rfl | assumption) rfl)) ?_
            refine E.GH.take (i := 24) rfl (by kernel_rfl) (by kernel_rfl) (by kernel_rfl) (by intro c a d v w h; cases d <;> exact h) rfl rfl rfl (fun w' hS => (E.Runs.load rfl rfl hu3 (by first | exact E.keeps hS (E.blkc (by assumption) rfl) (by first | exact E.nen | exact E.nes (by assumption) | exact E.nes (Ne.symm (by assumption))) | exact pw_cell_below (below_step s_L (E.belowG hS)) (by assumption) | exact pw_cell_below (below_step s_L (E.belowG hS)) S.c0 | exact pw_cell_below (below_step s_L (E.belowG hS)) S.c1 | exact pw_cell_below (below_step s_L (E.belowG hS)) S.c2 | exact pw_cell_below (below_step s_L (E.belowG hS)) S.c3 | exact pw_cell_below (below_step s_L (E.belowG hS)) S.c4 | exact pw_cell_below (below_step s_L (E.belowG hS)) S.c5 | exact pw_cell_below (below_step s_lq (E.belowG hS)) (by assumption)))) ?_
            refine E.GH.take (i := 25) rfl (by kernel_rfl) (by kernel_rfl) (by kernel_rfl) (by intro c a d v w h; cases d <;> exact h) rfl rfl rfl (fun w' hS => (E.Runs.fieldAddr rfl rfl hu25 rfl (by assumption) rfl)) ?_
            refine E.GH.take (i := 26) rfl (by kernel_rfl) (by kernel_rfl) (by kernel_rfl) (by intro c a d v w h; cases d <;> exact h) rfl rfl rfl (fun w' hS => (E.Runs.fieldAddr rfl rfl hu23 rfl (by assumption) rfl)) ?_
            refine E.GH.take (i := 27) rfl (by kernel_rfl) (by kernel_rfl) (by kernel_rfl) (by intro c a d v w h; cases d <;> exact h) rfl rfl rfl (fun w' hS => (E.Runs.load rfl rfl hu3 (by first | exact E.keeps hS (E.blkc (by assumption) rfl) (by first | exact E.nen | exact E.nes (by assumption) | exact E.nes (Ne.symm (by assumption))) | exact pw_cell_below (below_step s_L (E.belowG hS)) (by assumption) | exact pw_cell_below (below_step s_L (E.belowG hS)) S.c0 | exact pw_cell_below (below_step s_L (E.belowG hS)) S.c1 | exact pw_cell_below (below_step s_L (E.belowG hS)) S.c2 | exact pw_cell_below (below_step s_L (E.belowG hS)) S.c3 | exact pw_cell_below (below_step s_L (E.belowG hS)) S.c4 | exact pw_cell_below (below_step s_L (E.belowG hS)) S.c5 | exact pw_cell_below (below_step s_lq (E.belowG hS)) (by assumption)))) ?_
            refine E.GH.take (i := 28) rfl (by kernel_rfl) (by kernel_rfl) (by kernel_rfl) (by intro c a d v w h; cases d <;> exact h) rfl rfl rfl (fun w' hS => (E.Runs.fieldAddr rfl rfl hu25 rfl (by assumption) rfl)) ?_
            refine E.GH.take (i := 29) rfl (by kernel_rfl) (by kernel_rfl) (by kernel_rfl) (by intro c a d v w h; cases d <;> exact h) rfl rfl rfl (fun w' hS => (E.Runs.fieldAddr rfl rfl hu23 rfl (by assumption) rfl)) ?_
            refine E.GH.take (i := 30) rfl (by kernel_rfl) (by kernel_rfl) (by kernel_rfl) (by intro c a d v w h; cases d <;> exact h) rfl rfl rfl (fun w' hS => (E.Runs.load rfl rfl hu3 (by first | exact E.keeps hS (E.blkc (by assumption) rfl) (by first | exact E.nen | exact E.nes (by assumption) | exact E.nes (Ne.symm (by assumption))) | exact pw_cell_below (below_step s_L (E.belowG hS)) (by assumption) | exact pw_cell_below (below_step s_L (E.belowG hS)) S.c0 | exact pw_cell_below (below_step s_L (E.belowG hS)) S.c1 | exact pw_cell_below (below_step s_L (E.belowG hS)) S.c2 | exact pw_cell_below (below_step s_L (E.belowG hS)) S.c3 | exact pw_cell_below (below_step s_L (E.belowG hS)) S.c4 | exact pw_cell_below (below_step s_L (E.belowG hS)) S.c5 | exact pw_cell_below (below_step s_lq (E.belowG hS)) (by assumption)))) ?_
            by_cases h71 : H.cl ≤ d ∧ d ≤ H.ch
            · refine E.GH.one (i := 31) (by kernel_rfl) rfl ?_
              refine E.GO.st rfl rfl rfl (E.ST.call rfl ent44 (E.evc rfl (E.evc rfl (E.evc rfl E.evn))) ((within_row d H.cl H.ch true (iff_of_true rfl h71) _).mono ?_))
              rintro e w71 ⟨rfl, l71⟩
              refine ⟨_, rfl, hh.trans (E.gbB l71), ?_⟩
              replace hh := hh.trans (E.gbB l71)
              replace b3 := blk_below b3 l71
              replace b5 := blk_below b5 l71
              replace L := below_step L l71
              replace lq := below_step lq l71
              refine E.GH.take (i := 32) rfl (by kernel_rfl) (by kernel_rfl) (by kernel_rfl) (by intro c a d v w h; cases d <;> exact h) rfl rfl rfl (fun w' hS => (E.Runs.not rfl rfl)) ?_
              refine E.GH.take (i := 33) rfl (by kernel_rfl) (by kernel_rfl) (by kernel_rfl) (by intro c a d v w h; cases d <;> exact h) rfl rfl rfl (fun w' hS => (E.Runs.pick_f rfl rfl rfl)) ?_
              refine E.GH.done (by kernel_rfl) ?_
              refine E.QG.code ?_
              refine E.CG.cond_f rfl ?_
              refine E.CG.skip ?_
              refine E.QG.block_normal ?_
              refine E.QG.code ?_
              refine E.CG.list ?_
              refine E.GL.run rfl rfl rfl (E.Runs.move rfl rfl) ?_
              refine E.GL.run rfl rfl rfl (E.Runs.add rfl rfl rfl (IntWalk.i64_in _ (by omega))) ?_
              refine E.GL.run rfl rfl rfl (E.Runs.assign rfl rfl) ?_
              refine E.GL.done ?_
              exact E.QG.round (i + 1) (E.subc rfl (E.subc rfl (E.subc rfl (E.subc rfl E.subn)))) ⟨by omega, lq, fun j s' a' b' hj h1 h2 h3 => by
                  rcases Nat.lt_succ_iff_lt_or_eq.mp hj with hj | rfl
                  · exact hp j s' a' b' hj h1 h2 h3
                  · rw [hs] at h1
                    rw [ha] at h2
                    rw [hd] at h3
                    cases h1
                    cases h2
                    cases h3
                    exact ⟨h57, h71⟩⟩ (by omega)
            · refine E.GH.one (i := 31) (by kernel_rfl) rfl ?_
              refine E.GO.st rfl rfl rfl (E.ST.call rfl ent44 (E.evc rfl (E.evc rfl (E.evc rfl E.evn))) ((within_row d H.cl H.ch false (iff_of_false Bool.false_ne_true h71) _).mono ?_))
              rintro e w71 ⟨rfl, l71⟩
              refine ⟨_, rfl, hh.trans (E.gbB l71), ?_⟩
              replace hh := hh.trans (E.gbB l71)
              replace b3 := blk_below b3 l71
              replace b5 := blk_below b5 l71
              replace L := below_step L l71
              replace lq := below_step lq l71
              refine E.GH.take (i := 32) rfl (by kernel_rfl) (by kernel_rfl) (by kernel_rfl) (by intro c a d v w h; cases d <;> exact h) rfl rfl rfl (fun w' hS => (E.Runs.not rfl rfl)) ?_
              refine E.GH.take (i := 33) rfl (by kernel_rfl) (by kernel_rfl) (by kernel_rfl) (by intro c a d v w h; cases d <;> exact h) rfl rfl rfl (fun w' hS => (E.Runs.pick_f rfl rfl rfl)) ?_
              refine E.GH.done (by kernel_rfl) ?_
              refine E.QG.code ?_
              refine E.CG.cond_t rfl ?_
              refine E.CG.seq ?_
              refine E.CG.list ?_
              refine E.GL.run rfl rfl rfl (E.Runs.assign rfl rfl) ?_
              refine E.GL.done ?_
              refine E.QG.code ?_
              refine E.CG.ret ?_
              refine E.QG.block_ret ?_
              refine E.QG.pass_ret ?_
              refine E.QG.pass_ret ?_
              refine E.QG.block_ret ?_
              refine E.QG.pass_ret ?_
              exact E.QG.result rfl rfl ⟨by rw [show b = false from Bool.eq_false_iff.mpr fun hb' => h71 ((h.mp hb').2.2.2 i s a d hs ha hd).2], L⟩
          · refine E.GH.one (i := 17) (by kernel_rfl) rfl ?_
            refine E.GO.st rfl rfl rfl (E.ST.call rfl ent44 (E.evc rfl (E.evc rfl (E.evc rfl E.evn))) ((within_row a s.f2.f0 s.f2.f1 false (iff_of_false Bool.false_ne_true h57) _).mono ?_))
            rintro e w57 ⟨rfl, l57⟩
            refine ⟨_, rfl, hh.trans (E.gbB l57), ?_⟩
            replace hh := hh.trans (E.gbB l57)
            replace b3 := blk_below b3 l57
            replace b5 := blk_below b5 l57
            replace L := below_step L l57
            replace lq := below_step lq l57
            refine E.GH.take (i := 18) rfl (by kernel_rfl) (by kernel_rfl) (by kernel_rfl) (by intro c a d v w h; cases d <;> exact h) rfl rfl rfl (fun w' hS => (E.Runs.not rfl rfl)) ?_
            refine E.GH.take (i := 19) rfl (by kernel_rfl) (by kernel_rfl) (by kernel_rfl) (by intro c a d v w h; cases d <;> exact h) rfl rfl rfl (fun w' hS => (E.Runs.move rfl rfl)) ?_
            refine E.GH.pass (i := 20) rfl (by kernel_rfl) (by kernel_rfl) (by kernel_rfl) (by intro c a d v w h; cases d <;> exact h) rfl rfl rfl ?_
            refine E.GH.pass (i := 21) rfl (by kernel_rfl) (by kernel_rfl) (by kernel_rfl) (by intro c a d v w h; cases d <;> exact h) rfl rfl rfl ?_
            refine E.GH.pass (i := 22) rfl (by kernel_rfl) (by kernel_rfl) (by kernel_rfl) (by intro c a d v w h; cases d <;> exact h) rfl rfl rfl ?_
            refine E.GH.pass (i := 23) rfl (by kernel_rfl) (by kernel_rfl) (by kernel_rfl) (by intro c a d v w h; cases d <;> exact h) rfl rfl rfl ?_
            refine E.GH.pass (i := 24) rfl (by kernel_rfl) (by kernel_rfl) (by kernel_rfl) (by intro c a d v w h; cases d <;> exact h) rfl rfl rfl ?_
            refine E.GH.pass (i := 25) rfl (by kernel_rfl) (by kernel_rfl) (by kernel_rfl) (by intro c a d v w h; cases d <;> exact h) rfl rfl rfl ?_
            refine E.GH.pass (i := 26) rfl (by kernel_rfl) (by kernel_rfl) (by kernel_rfl) (by intro c a d v w h; cases d <;> exact h) rfl rfl rfl ?_
            refine E.GH.pass (i := 27) rfl (by kernel_rfl) (by kernel_rfl) (by kernel_rfl) (by intro c a d v w h; cases d <;> exact h) rfl rfl rfl ?_
            refine E.GH.pass (i := 28) rfl (by kernel_rfl) (by kernel_rfl) (by kernel_rfl) (by intro c a d v w h; cases d <;> exact h) rfl rfl rfl ?_
            refine E.GH.pass (i := 29) rfl (by kernel_rfl) (by kernel_rfl) (by kernel_rfl) (by intro c a d v w h; cases d <;> exact h) rfl rfl rfl ?_
            refine E.GH.pass (i := 30) rfl (by kernel_rfl) (by kernel_rfl) (by kernel_rfl) (by intro c a d v w h; cases d <;> exact h) rfl rfl rfl ?_
            refine E.GH.pass (i := 31) rfl (by kernel_rfl) (by kernel_rfl) (by kernel_rfl) (by intro c a d v w h; cases d <;> exact h) rfl rfl rfl ?_
            refine E.GH.pass (i := 32) rfl (by kernel_rfl) (by kernel_rfl) (by kernel_rfl) (by intro c a d v w h; cases d <;> exact h) rfl rfl rfl ?_
            refine E.GH.take (i := 33) rfl (by kernel_rfl) (by kernel_rfl) (by kernel_rfl) (by intro c a d v w h; cases d <;> exact h) rfl rfl rfl (fun w' hS => (E.Runs.pick_t rfl rfl rfl)) ?_
            refine E.GH.done (by kernel_rfl) ?_
            refine E.QG.code ?_
            refine E.CG.cond_t rfl ?_
            refine E.CG.seq ?_
            refine E.CG.list ?_
            refine E.GL.run rfl rfl rfl (E.Runs.assign rfl rfl) ?_
            refine E.GL.done ?_
            refine E.QG.code ?_
            refine E.CG.ret ?_
            refine E.QG.block_ret ?_
            refine E.QG.pass_ret ?_
            refine E.QG.pass_ret ?_
            refine E.QG.block_ret ?_
            refine E.QG.pass_ret ?_
            exact E.QG.result rfl rfl ⟨by rw [show b = false from Bool.eq_false_iff.mpr fun hb' => h57 ((h.mp hb').2.2.2 i s a d hs ha hd).1], L⟩
        · refine E.GL.done ?_
          refine E.QG.code ?_
          refine E.CG.cond_f rfl ?_
          refine E.CG.exit ?_
          refine E.QG.pass_exit ?_
          refine E.QG.pass_exit ?_
          refine E.QG.block_here ?_
          refine E.QG.code ?_
          refine E.CG.seq ?_
          refine E.CG.list ?_
          refine E.GL.run rfl rfl rfl (E.Runs.assign rfl rfl) ?_
          refine E.GL.done ?_
          refine E.QG.code ?_
          refine E.CG.ret ?_
          exact E.QG.result rfl rfl ⟨by rw [h.mpr ⟨by omega, by omega, h31, fun j s a b h1 h2 h3 => hp j s a b (by have := (List.getElem?_eq_some_iff.1 h1).1; omega) h1 h2 h3⟩], L⟩
      · refine E.GL.st rfl rfl rfl (E.ST.call rfl ent44 (E.evc rfl (E.evc rfl (E.evc rfl E.evn))) ((within_row ra H.dl H.dh false (iff_of_false Bool.false_ne_true h31) _).mono ?_))
        rintro e w31 ⟨rfl, l31⟩
        refine ⟨_, rfl, ?_⟩
        replace b3 := blk_below b3 l31
        replace b5 := blk_below b5 l31
        replace L := below_step L l31
        refine E.GL.run rfl rfl rfl (E.Runs.not rfl rfl) ?_
        refine E.GL.run rfl rfl rfl (E.Runs.pick_f rfl rfl rfl) ?_
        refine E.GL.done ?_
        refine E.QG.code ?_
        refine E.CG.cond_t rfl ?_
        refine E.CG.seq ?_
        refine E.CG.list ?_
        refine E.GL.run rfl rfl rfl (E.Runs.assign rfl rfl) ?_
        refine E.GL.done ?_
        refine E.QG.code ?_
        refine E.CG.ret ?_
        refine E.QG.pass_ret ?_
        exact E.QG.result rfl rfl ⟨by rw [show b = false from Bool.eq_false_iff.mpr fun hb' => h31 (h.mp hb').2.2.1], L⟩

end Go.Proofs.Ythdbkhdiaehblaa.T
