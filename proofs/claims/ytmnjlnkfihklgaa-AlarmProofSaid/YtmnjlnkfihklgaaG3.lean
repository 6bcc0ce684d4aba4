/- Texts of this claim, put together: A8, A9, A10, A11, A12, A13, A14, A15, A16, A17, E15, E16. -/
import Derived.Test.YtmnjlnkfihklgaaG2
import Derived.MapKept
namespace Go.Proofs.Ytmnjlnkfihklgaa.T
open Go.RowKit Go.Proofs.YtmnjlnkfihklgaaW.PrintWords Go.Proofs.YtmnjlnkfihklgaaW.PrintMore
open Go.Proofs.Ytmnjlnkfihklgaa.P
set_option linter.unusedVariables false
set_option linter.unusedSimpArgs false

theorem sumP_b {l : List Int} (h : PsOk l) (hl : l.length ≤ 1000) : ∀ i, i ≤ l.length → 0 ≤ sumN (fun r => l.getD r 0) i ∧ sumN (fun r => l.getD r 0) i ≤ 99 * i
  | 0, _ => by simp [sumN]
  | i + 1, hi => by
    have h1 := sumP_b h hl i (by omega)
    have h2 := h _ (getD_mem (z := 0) (show i < l.length by omega))
    simp only [sumN]
    push_cast
    omega
theorem edH_rows {ps : List Int} {qs : List S45} {T : Nat} {f : Nat → Int} (h : HOk ps qs) (ho : FlowOk (edH ps qs T) f) : ∀ v, v < nodeN T ps.length 0 → ∀ x ∈ rowP (edH ps qs T) f v, x.f3.f0 < qs.length ∧ 0 ≤ x.f1 ∧ x.f1 ≤ 1073741824 := by
  intro v hv x hx
  obtain ⟨i, hi⟩ := List.mem_iff_getElem?.mp hx
  obtain ⟨k, b, e, _, he, _, rfl⟩ := rowP_half hi
  have h1 := room_ge (b := b) ho he
  have h2 := room_le (b := b) ho (fun e he => (edH_cap h e he).2) he
  rw [entP_is he]
  refine ⟨?_, h1, h2⟩
  cases b with
  | false => simp only [Bool.false_eq_true, if_false]; omega
  | true =>
    simp only [if_true]
    rcases List.mem_append.mp (List.mem_of_getElem? he) with hm | hm
    · obtain ⟨r, hr, rfl | ⟨m, hm', rfl⟩⟩ := edRs_mem hm
      · simp only; omega
      · simp only; omega
    · obtain ⟨i, m, hi, hm', rfl⟩ := edQs_mem hm
      simp only
      omega
/-- What Most, Plan and Proof return. -/
def MostR (ps : List Int) (qs : List S45) (m N : Int) : Prop := (chkE ps qs m = 0 → IsMost ps qs m.toNat N) ∧ (¬ chkE ps qs m = 0 → N = 0)
def PlanR (ps : List Int) (qs : List S45) (m : Int) (l : List S35) : Prop := (chkE ps qs m = 0 → ∃ f out, MaxFlow (edH ps qs m.toNat) (nodeN m.toNat ps.length 0) f out ∧ l = mvN (edH ps qs m.toNat) f qs (nodeN m.toNat ps.length 0)) ∧ (¬ chkE ps qs m = 0 → l = [])
def ProofR (ps : List Int) (qs : List S45) (m : Int) (l : List Int) : Prop := (chkE ps qs m = 0 → ∃ f out bl il, MaxFlow (edH ps qs m.toNat) (nodeN m.toNat ps.length 0) f out ∧ ReachOk (edH ps qs m.toNat) f (nodeN m.toNat ps.length 0) bl il ∧ l = hrsL m.toNat il ps.length) ∧ (¬ chkE ps qs m = 0 → l = [])
theorem mostR_no {ps : List Int} {qs : List S45} {m : Int} (h : ¬ chkE ps qs m = 0) : MostR ps qs m 0 := ⟨fun k => absurd k h, fun _ => rfl⟩
theorem mostR_yes {ps : List Int} {qs : List S45} {m N : Int} (h : chkE ps qs m = 0) (k : IsMost ps qs m.toNat N) : MostR ps qs m N := ⟨fun _ => k, fun n => absurd h n⟩
theorem planR_no {ps : List Int} {qs : List S45} {m : Int} (h : ¬ chkE ps qs m = 0) : PlanR ps qs m [] := ⟨fun k => absurd k h, fun _ => rfl⟩
theorem planR_yes {ps : List Int} {qs : List S45} {m : Int} {l : List S35} (h : chkE ps qs m = 0) (k : ∃ f out, MaxFlow (edH ps qs m.toNat) (nodeN m.toNat ps.length 0) f out ∧ l = mvN (edH ps qs m.toNat) f qs (nodeN m.toNat ps.length 0)) : PlanR ps qs m l := ⟨fun _ => k, fun n => absurd h n⟩
theorem proofR_no {ps : List Int} {qs : List S45} {m : Int} (h : ¬ chkE ps qs m = 0) : ProofR ps qs m [] := ⟨fun k => absurd k h, fun _ => rfl⟩
theorem proofR_yes {ps : List Int} {qs : List S45} {m : Int} {l : List Int} (h : chkE ps qs m = 0) (k : ∃ f out bl il, MaxFlow (edH ps qs m.toNat) (nodeN m.toNat ps.length 0) f out ∧ ReachOk (edH ps qs m.toNat) f (nodeN m.toNat ps.length 0) bl il ∧ l = hrsL m.toNat il ps.length) : ProofR ps qs m l := ⟨fun _ => k, fun n => absurd h n⟩
set_option maxRecDepth 100000 in
set_option maxHeartbeats 8000000 in

theorem check15 (ps : List Int) (qs : List S45) (A B : Option Addr) (c d : Nat) (w : World) (hP : Kd.C kI w A ps.length ps) (hQ : Kd.C k45 w B qs.length qs) (hn1 : ps.length ≤ 1000000) (hn2 : qs.length ≤ 1000000) :
    Calls Try.prog 15 #[hv ps qs A B c d] w fun e w' => e = .returned (.int .i64 (checkE ps qs)) ∧ Below w.heap.size w w' := by
  have hu3 := Try.underlying3
  have hu22 := Try.underlying22
  have hu23 := Try.underlying23
  have hu25 := Try.underlying25
  have hu45 := Try.underlying45
  obtain ⟨z3, o3⟩ := info_some info3s (by decide)
  obtain ⟨z22, o22⟩ := info_some info22s (by decide)
  obtain ⟨z23, o23⟩ := info_some info23s (by decide)
  obtain ⟨z25, o25⟩ := info_some info25s (by decide)
  obtain ⟨z45, o45⟩ := info_some info45s (by decide)
  refine E.enter (N := 80) Try.func15 rfl Try.ntmps15 (args := [hv ps qs A B c d]) (by simp) ?_
  have L := Below.refl w.heap.size w
  refine E.CG.seq ?_
  refine E.CG.list ?_
  refine E.GL.st rfl rfl rfl (E.ST.box rfl rfl fun g1 w1 e1 b1 l1 => ?_)
  have h1_L : w.heap.size ≤ g1 := by rw [e1]; exact L.size
  replace L := below_step L l1
  refine E.GL.run rfl rfl rfl (E.Runs.assign rfl rfl) ?_
  refine E.GL.done ?_
  refine E.QG.code ?_
  refine E.CG.seq ?_
  refine E.CG.seq ?_
  refine E.CG.list ?_
  refine E.GL.run rfl rfl rfl (E.Runs.fieldAddr rfl rfl hu25 rfl (by assumption) rfl) ?_
  refine E.GL.run rfl rfl rfl (E.Runs.load1 rfl rfl hu22 rfl (by first | assumption | exact E.blkc (by assumption) rfl | exact pw_cell_below L (by assumption))) ?_
  refine E.GL.run rfl rfl rfl (E.Runs.len rfl rfl hu22) ?_
  by_cases h9 : inR ps.length 1 6
  · refine E.GL.st rfl rfl rfl (E.ST.call rfl ent44 (E.evc rfl (E.evc rfl (E.evc rfl E.evn))) ((within_r ps.length 1 6 true (iff_of_true rfl h9) _).mono ?_))
    rintro e w9 ⟨rfl, l9⟩
    refine ⟨_, rfl, ?_⟩
    replace b1 := blk_below b1 l9
    replace L := below_step L l9
    refine E.GL.run rfl rfl rfl (E.Runs.not rfl rfl) ?_
    refine E.GL.run rfl rfl rfl (E.Runs.move rfl rfl) ?_
    refine E.GL.run rfl rfl rfl (E.Runs.fieldAddr rfl rfl hu25 rfl (by assumption) rfl) ?_
    refine E.GL.run rfl rfl rfl (E.Runs.load1 rfl rfl hu23 rfl (by first | assumption | exact E.blkc (by assumption) rfl | exact pw_cell_below L (by assumption))) ?_
    refine E.GL.run rfl rfl rfl (E.Runs.len rfl rfl hu23) ?_
    refine E.GL.cmp rfl rfl rfl (fun _ h => (E.Runs.gtr rfl rfl rfl h)) (fun h15 => ?_) (fun h15 => ?_)
    · refine E.GL.run rfl rfl rfl (E.Runs.pick_f rfl rfl rfl) ?_
      refine E.GL.done ?_
      refine E.QG.code ?_
      refine E.CG.cond_t rfl ?_
      refine E.CG.seq ?_
      refine E.CG.list ?_
      refine E.GL.run rfl rfl rfl (E.Runs.assign rfl rfl) ?_
      refine E.GL.done ?_
      refine E.QG.code ?_
      refine E.CG.ret ?_
      refine E.QG.pass_ret ?_
      exact E.QG.result rfl rfl ⟨by rw [checkE_no (fun k => by have := k.q12; omega)], L⟩
    · refine E.GL.run rfl rfl rfl (E.Runs.pick_f rfl rfl rfl) ?_
      refine E.GL.done ?_
      refine E.QG.code ?_
      refine E.CG.cond_f rfl ?_
      refine E.CG.skip ?_
      refine E.QG.code ?_
      refine E.CG.seq ?_
      refine E.CG.seq ?_
      refine E.CG.list ?_
      refine E.GL.run rfl rfl rfl (E.Runs.assign rfl rfl) ?_
      refine E.GL.done ?_
      refine E.QG.code ?_
      refine E.CG.block ?_
      have s4_b1 := b1
      have s4_L := L
      refine E.CG.loop (fun (i : Nat) => [(1, .pointer (some ⟨g1, 0, none⟩)), (3, .int .i64 i)]) (fun i w' => i ≤ ps.length ∧ w'.heap[g1]? = some (.cells #[.slice A ps.length c, .slice B qs.length d] 25 (0, 0)) ∧ Below w.heap.size w w' ∧ ∀ k, k < i → ∀ x, ps[k]? = some x → 0 ≤ x ∧ x ≤ 99) (fun i => ps.length - i) 0 (E.subc rfl (E.subc rfl E.subn)) ⟨Nat.zero_le _, b1, L, fun k hk => by omega⟩ ?_
      rintro i w4 ⟨hi, b1, L, hok⟩
      refine E.CG.seq ?_
      refine E.CG.seq ?_
      refine E.CG.list ?_
      refine E.GL.run rfl rfl rfl (E.Runs.move rfl rfl) ?_
      refine E.GL.run rfl rfl rfl (E.Runs.fieldAddr rfl rfl hu25 rfl (by assumption) rfl) ?_
      refine E.GL.run rfl rfl rfl (E.Runs.load1 rfl rfl hu22 rfl (by first | assumption | exact E.blkc (by assumption) rfl | exact pw_cell_below L (by assumption))) ?_
      refine E.GL.run rfl rfl rfl (E.Runs.len rfl rfl hu22) ?_
      refine E.GL.cmp rfl rfl rfl (fun _ h => (E.Runs.lss rfl rfl rfl h)) (fun h21 => ?_) (fun h21 => ?_)
      · obtain ⟨x, hx⟩ : ∃ x, ps[i]? = some x := ⟨_, List.getElem?_eq_getElem (by omega)⟩
        obtain ⟨ad, eA, X⟩ := int_at hP hx
        refine E.GL.done ?_
        refine E.QG.code ?_
        refine E.CG.cond_t rfl ?_
        refine E.CG.skip ?_
        refine E.QG.code ?_
        refine E.CG.seq ?_
        refine E.CG.block ?_
        refine E.CG.seq ?_
        refine E.CG.list ?_
        refine E.GL.run rfl rfl rfl (E.Runs.fieldAddr rfl rfl hu25 rfl (by assumption) rfl) ?_
        refine E.GL.run rfl rfl rfl (E.Runs.load1 rfl rfl hu22 rfl (by first | assumption | exact E.blkc (by assumption) rfl | exact pw_cell_below L (by assumption))) ?_
        refine E.GL.run rfl rfl rfl (E.Runs.move rfl rfl) ?_
        refine E.GL.run rfl rfl rfl (E.Runs.indexAddrA rfl rfl rfl hu22 z3 o3 (show (i : Int) < ps.length by omega) eA rfl) ?_
        refine E.GL.run rfl rfl rfl (E.Runs.load rfl rfl hu3 (pw_cell_below L X)) ?_
        by_cases h29 : inR x 0 99
        · refine E.GL.st rfl rfl rfl (E.ST.call rfl ent44 (E.evc rfl (E.evc rfl (E.evc rfl E.evn))) ((within_r x 0 99 true (iff_of_true rfl h29) _).mono ?_))
          rintro e w29 ⟨rfl, l29⟩
          refine ⟨_, rfl, ?_⟩
          replace b1 := blk_below b1 l29
          replace L := below_step L l29
          refine E.GL.run rfl rfl rfl (E.Runs.not rfl rfl) ?_
          refine E.GL.done ?_
          refine E.QG.code ?_
          refine E.CG.cond_f rfl ?_
          refine E.CG.skip ?_
          refine E.QG.block_normal ?_
          refine E.QG.code ?_
          refine E.CG.list ?_
          refine E.GL.run rfl rfl rfl (E.Runs.move rfl rfl) ?_
          refine E.GL.run rfl rfl rfl (E.Runs.add rfl rfl rfl (IntWalk.i64_in _ (by omega))) ?_
          refine E.GL.run rfl rfl rfl (E.Runs.assign rfl rfl) ?_
          refine E.GL.done ?_
          exact E.QG.round (i + 1) (E.subc rfl (E.subc rfl E.subn)) ⟨by omega, b1, L, all_more hok hx h29⟩ (by omega)
        · refine E.GL.st rfl rfl rfl (E.ST.call rfl ent44 (E.evc rfl (E.evc rfl (E.evc rfl E.evn))) ((within_r x 0 99 false (iff_of_false Bool.false_ne_true h29) _).mono ?_))
          rintro e w29 ⟨rfl, l29⟩
          refine ⟨_, rfl, ?_⟩
          replace b1 := blk_below b1 l29
          replace L := below_step L l29
          refine E.GL.run rfl rfl rfl (E.Runs.not rfl rfl) ?_
          refine E.GL.done ?_
          refine E.QG.code ?_
          refine E.CG.cond_t rfl ?_
          refine E.CG.seq ?_
          refine E.CG.list ?_
          refine E.GL.run rfl rfl rfl (E.Runs.assign rfl rfl) ?_
          refine E.GL.done ?_
          refine E.QG.code ?_
          refine E.CG.ret ?_
          refine E.QG.block_ret ?_
          refine E.QG.pass_ret ?_
          refine E.QG.pass_ret ?_
          refine E.QG.block_ret ?_
          refine E.QG.pass_ret ?_
          exact E.QG.result rfl rfl ⟨by rw [checkE_no (fun k => h29 (k.p x (List.mem_of_getElem? hx)))], L⟩
      · have hpo : PsOk ps := all_done hok (by omega)
        refine E.GL.done ?_
        refine E.QG.code ?_
        refine E.CG.cond_f rfl ?_
        refine E.CG.exit ?_
        refine E.QG.pass_exit ?_
        refine E.QG.pass_exit ?_
        refine E.QG.block_here ?_
        refine E.QG.code ?_
        refine E.CG.seq ?_
        refine E.CG.seq ?_
        refine E.CG.list ?_
        refine E.GL.run rfl rfl rfl (E.Runs.assign rfl rfl) ?_
        refine E.GL.done ?_
        refine E.QG.code ?_
        refine E.CG.block ?_
        have s9_b1 := b1
        have s9_L := L
        refine E.CG.loop (fun (i : Nat) => [(1, .pointer (some ⟨g1, 0, none⟩)), (4, .int .i64 i)]) (fun i w' => i ≤ qs.length ∧ w'.heap[g1]? = some (.cells #[.slice A ps.length c, .slice B qs.length d] 25 (0, 0)) ∧ Below w.heap.size w w' ∧ ∀ k, k < i → ∀ x, qs[k]? = some x → QOk ps.length x) (fun i => qs.length - i) 0 (E.subc rfl (E.subc rfl E.subn)) ⟨Nat.zero_le _, b1, L, fun k hk => by omega⟩ ?_
        rintro i w9 ⟨hi2, b1, L, hok2⟩
        refine E.CG.seq ?_
        refine E.CG.seq ?_
        refine E.CG.list ?_
        refine E.GL.run rfl rfl rfl (E.Runs.move rfl rfl) ?_
        refine E.GL.run rfl rfl rfl (E.Runs.fieldAddr rfl rfl hu25 rfl (by assumption) rfl) ?_
        refine E.GL.run rfl rfl rfl (E.Runs.load1 rfl rfl hu23 rfl (by first | assumption | exact E.blkc (by assumption) rfl | exact pw_cell_below L (by assumption))) ?_
        refine E.GL.run rfl rfl rfl (E.Runs.len rfl rfl hu23) ?_
        refine E.GL.cmp rfl rfl rfl (fun _ h => (E.Runs.lss rfl rfl rfl h)) (fun h35 => ?_) (fun h35 => ?_)
        · obtain ⟨q, hx⟩ : ∃ x, qs[i]? = some x := ⟨_, List.getElem?_eq_getElem (by omega)⟩
          obtain ⟨ad, eA, X⟩ := pass_at hQ hx
          refine E.GL.done ?_
          refine E.QG.code ?_
          refine E.CG.cond_t rfl ?_
          refine E.CG.skip ?_
          refine E.QG.code ?_
          refine E.CG.seq ?_
          refine E.CG.block ?_
          refine E.CG.seq ?_
          refine E.CG.list ?_
          refine E.GL.run rfl rfl rfl (E.Runs.fieldAddr rfl rfl hu25 rfl (by assumption) rfl) ?_
          refine E.GL.run rfl rfl rfl (E.Runs.load1 rfl rfl hu23 rfl (by first | assumption | exact E.blkc (by assumption) rfl | exact pw_cell_below L (by assumption))) ?_
          refine E.GL.run rfl rfl rfl (E.Runs.move rfl rfl) ?_
          refine E.GL.run rfl rfl rfl (E.Runs.indexAddrA rfl rfl rfl hu23 z45 o45 (show (i : Int) < qs.length by omega) eA rfl) ?_
          refine E.GL.run rfl rfl rfl (E.Runs.loads (cs := [.int .i64 q.f0, .int .i64 q.f1, .int .i64 q.f2, .int .i64 q.f3]) rfl rfl hu45 rfl info45s (fun j v hv => pw_cell_below L (X j v hv))) ?_
          refine E.GL.st rfl rfl rfl (E.ST.alloc rfl info45z fun g5 w5 e5 b5 l5 => ?_)
          have h5_L : w.heap.size ≤ g5 := by rw [e5]; exact L.size
          have n5_b1 : g1 ≠ g5 := by have := blk_lt b1; omega
          replace b1 := blk_below b1 l5
          replace L := below_step L l5
          refine E.GL.store_whole rfl rfl rfl rfl rfl b5 rfl info45s (four_one _ _ _ _) fun wS11_6 c5 lS11_6 => ?_
          replace b1 := blk_grown b1 lS11_6 (E.nes (by first | assumption | exact Ne.symm (by assumption)))
          replace L := E.below_own L h5_L lS11_6
          replace b5 := c5
          clear c5
          refine E.GL.done ?_
          refine E.QG.code ?_
          refine E.CG.seq ?_
          refine E.CG.list ?_
          refine E.GL.run rfl rfl rfl (E.Runs.fieldAddr rfl rfl hu45 rfl (by assumption) rfl) ?_
          refine E.GL.run rfl rfl rfl (E.Runs.load rfl rfl hu3 (by first | assumption | exact E.blkc (by assumption) rfl | exact pw_cell_below L (by assumption))) ?_
          refine E.GL.run rfl rfl rfl (E.Runs.fieldAddr rfl rfl hu25 rfl (by assumption) rfl) ?_
          refine E.GL.run rfl rfl rfl (E.Runs.load1 rfl rfl hu22 rfl (by first | assumption | exact E.blkc (by assumption) rfl | exact pw_cell_below L (by assumption))) ?_
          refine E.GL.run rfl rfl rfl (E.Runs.len rfl rfl hu22) ?_
          refine E.GL.run rfl rfl rfl (E.Runs.sub rfl rfl rfl (IntWalk.i64_in _ (by omega))) ?_
          by_cases h49 : inR q.f0 0 (ps.length - 1)
          · refine E.GL.st rfl rfl rfl (E.ST.call rfl ent44 (E.evc rfl (E.evc rfl (E.evc rfl E.evn))) ((within_r q.f0 0 (ps.length - 1) true (iff_of_true rfl h49) _).mono ?_))
            rintro e w49 ⟨rfl, l49⟩
            refine ⟨_, rfl, ?_⟩
            replace b1 := blk_below b1 l49
            replace b5 := blk_below b5 l49
            replace L := below_step L l49
            refine E.GL.run rfl rfl rfl (E.Runs.not rfl rfl) ?_
            refine E.GL.run rfl rfl rfl (E.Runs.move rfl rfl) ?_
            refine E.GL.run rfl rfl rfl (E.Runs.fieldAddr rfl rfl hu45 rfl (by assumption) rfl) ?_
            refine E.GL.run rfl rfl rfl (E.Runs.load rfl rfl hu3 (by first | assumption | exact E.blkc (by assumption) rfl | exact pw_cell_below L (by assumption))) ?_
            refine E.GL.run rfl rfl rfl (E.Runs.fieldAddr rfl rfl hu25 rfl (by assumption) rfl) ?_
            refine E.GL.run rfl rfl rfl (E.Runs.load1 rfl rfl hu22 rfl (by first | assumption | exact E.blkc (by assumption) rfl | exact pw_cell_below L (by assumption))) ?_
            refine E.GL.run rfl rfl rfl (E.Runs.len rfl rfl hu22) ?_
            refine E.GL.run rfl rfl rfl (E.Runs.sub rfl rfl rfl (IntWalk.i64_in _ (by omega))) ?_
            by_cases h58 : inR q.f1 (-1) (ps.length - 1)
            · refine E.GL.st rfl rfl rfl (E.ST.call rfl ent44 (E.evc rfl (E.evc rfl (E.evc rfl E.evn))) ((within_r q.f1 (-1) (ps.length - 1) true (iff_of_true rfl h58) _).mono ?_))
              rintro e w58 ⟨rfl, l58⟩
              refine ⟨_, rfl, ?_⟩
              replace b1 := blk_below b1 l58
              replace b5 := blk_below b5 l58
              replace L := below_step L l58
              refine E.GL.run rfl rfl rfl (E.Runs.not rfl rfl) ?_
              refine E.GL.run rfl rfl rfl (E.Runs.pick_f rfl rfl rfl) ?_
              refine E.GL.run rfl rfl rfl (E.Runs.move rfl rfl) ?_
              refine E.GL.run rfl rfl rfl (E.Runs.fieldAddr rfl rfl hu45 rfl (by assumption) rfl) ?_
              refine E.GL.run rfl rfl rfl (E.Runs.load rfl rfl hu3 (by first | assumption | exact E.blkc (by assumption) rfl | exact pw_cell_below L (by assumption))) ?_
              refine E.GL.run rfl rfl rfl (E.Runs.fieldAddr rfl rfl hu45 rfl (by assumption) rfl) ?_
              refine E.GL.run rfl rfl rfl (E.Runs.load rfl rfl hu3 (by first | assumption | exact E.blkc (by assumption) rfl | exact pw_cell_below L (by assumption))) ?_
              refine E.GL.cmp rfl rfl rfl (fun _ h => (E.Runs.eql rfl rfl rfl h)) (fun h66 => ?_) (fun h66 => ?_)
              · refine E.GL.run rfl rfl rfl (E.Runs.pick_f rfl rfl rfl) ?_
                refine E.GL.run rfl rfl rfl (E.Runs.move rfl rfl) ?_
                refine E.GL.skip rfl rfl rfl ?_
                refine E.GL.skip rfl rfl rfl ?_
                refine E.GL.skip rfl rfl rfl ?_
                refine E.GL.skip rfl rfl rfl ?_
                refine E.GL.run rfl rfl rfl (E.Runs.pick_t rfl rfl rfl) ?_
                refine E.GL.run rfl rfl rfl (E.Runs.move rfl rfl) ?_
                refine E.GL.skip rfl rfl rfl ?_
                refine E.GL.skip rfl rfl rfl ?_
                refine E.GL.skip rfl rfl rfl ?_
                refine E.GL.skip rfl rfl rfl ?_
                refine E.GL.run rfl rfl rfl (E.Runs.pick_t rfl rfl rfl) ?_
                refine E.GL.done ?_
                refine E.QG.code ?_
                refine E.CG.cond_t rfl ?_
                refine E.CG.seq ?_
                refine E.CG.list ?_
                refine E.GL.run rfl rfl rfl (E.Runs.assign rfl rfl) ?_
                refine E.GL.done ?_
                refine E.QG.code ?_
                refine E.CG.ret ?_
                refine E.QG.block_ret ?_
                refine E.QG.pass_ret ?_
                refine E.QG.pass_ret ?_
                refine E.QG.block_ret ?_
                refine E.QG.pass_ret ?_
                have hq : ¬ QOk ps.length q := by unfold QOk; unfold inR at *; omega
                exact E.QG.result rfl rfl ⟨by rw [checkE_no (fun k => hq (k.q q (List.mem_of_getElem? hx)))], L⟩
              · refine E.GL.run rfl rfl rfl (E.Runs.pick_f rfl rfl rfl) ?_
                refine E.GL.run rfl rfl rfl (E.Runs.move rfl rfl) ?_
                refine E.GL.run rfl rfl rfl (E.Runs.fieldAddr rfl rfl hu45 rfl (by assumption) rfl) ?_
                refine E.GL.run rfl rfl rfl (E.Runs.load rfl rfl hu3 (by first | assumption | exact E.blkc (by assumption) rfl | exact pw_cell_below L (by assumption))) ?_
                by_cases h71 : inR q.f2 0 20
                · refine E.GL.st rfl rfl rfl (E.ST.call rfl ent44 (E.evc rfl (E.evc rfl (E.evc rfl E.evn))) ((within_r q.f2 0 20 true (iff_of_true rfl h71) _).mono ?_))
                  rintro e w71 ⟨rfl, l71⟩
                  refine ⟨_, rfl, ?_⟩
                  replace b1 := blk_below b1 l71
                  replace b5 := blk_below b5 l71
                  replace L := below_step L l71
                  refine E.GL.run rfl rfl rfl (E.Runs.not rfl rfl) ?_
                  refine E.GL.run rfl rfl rfl (E.Runs.pick_f rfl rfl rfl) ?_
                  refine E.GL.run rfl rfl rfl (E.Runs.move rfl rfl) ?_
                  refine E.GL.run rfl rfl rfl (E.Runs.fieldAddr rfl rfl hu45 rfl (by assumption) rfl) ?_
                  refine E.GL.run rfl rfl rfl (E.Runs.load rfl rfl hu3 (by first | assumption | exact E.blkc (by assumption) rfl | exact pw_cell_below L (by assumption))) ?_
                  by_cases h77 : inR q.f3 1 9
                  · refine E.GL.st rfl rfl rfl (E.ST.call rfl ent44 (E.evc rfl (E.evc rfl (E.evc rfl E.evn))) ((within_r q.f3 1 9 true (iff_of_true rfl h77) _).mono ?_))
                    rintro e w77 ⟨rfl, l77⟩
                    refine ⟨_, rfl, ?_⟩
                    replace b1 := blk_below b1 l77
                    replace b5 := blk_below b5 l77
                    replace L := below_step L l77
                    refine E.GL.run rfl rfl rfl (E.Runs.not rfl rfl) ?_
                    refine E.GL.run rfl rfl rfl (E.Runs.pick_f rfl rfl rfl) ?_
                    refine E.GL.done ?_
                    refine E.QG.code ?_
                    refine E.CG.cond_f rfl ?_
                    refine E.CG.skip ?_
                    refine E.QG.block_normal ?_
                    refine E.QG.code ?_
                    refine E.CG.list ?_
                    refine E.GL.run rfl rfl rfl (E.Runs.move rfl rfl) ?_
                    refine E.GL.run rfl rfl rfl (E.Runs.add rfl rfl rfl (IntWalk.i64_in _ (by omega))) ?_
                    refine E.GL.run rfl rfl rfl (E.Runs.assign rfl rfl) ?_
                    refine E.GL.done ?_
                    exact E.QG.round (i + 1) (E.subc rfl (E.subc rfl E.subn)) ⟨by omega, b1, L, all_more hok2 hx (by unfold QOk; unfold inR at h49 h58 h71 h77; omega)⟩ (by omega)
                  · refine E.GL.st rfl rfl rfl (E.ST.call rfl ent44 (E.evc rfl (E.evc rfl (E.evc rfl E.evn))) ((within_r q.f3 1 9 false (iff_of_false Bool.false_ne_true h77) _).mono ?_))
                    rintro e w77 ⟨rfl, l77⟩
                    refine ⟨_, rfl, ?_⟩
                    replace b1 := blk_below b1 l77
                    replace b5 := blk_below b5 l77
                    replace L := below_step L l77
                    refine E.GL.run rfl rfl rfl (E.Runs.not rfl rfl) ?_
                    refine E.GL.run rfl rfl rfl (E.Runs.pick_f rfl rfl rfl) ?_
                    refine E.GL.done ?_
                    refine E.QG.code ?_
                    refine E.CG.cond_t rfl ?_
                    refine E.CG.seq ?_
                    refine E.CG.list ?_
                    refine E.GL.run rfl rfl rfl (E.Runs.assign rfl rfl) ?_
                    refine E.GL.done ?_
                    refine E.QG.code ?_
                    refine E.CG.ret ?_
                    refine E.QG.block_ret ?_
                    refine E.QG.pass_ret ?_
                    refine E.QG.pass_ret ?_
                    refine E.QG.block_ret ?_
                    refine E.QG.pass_ret ?_
                    have hq : ¬ QOk ps.length q := by unfold QOk; unfold inR at *; omega
                    exact E.QG.result rfl rfl ⟨by rw [checkE_no (fun k => hq (k.q q (List.mem_of_getElem? hx)))], L⟩
                · refine E.GL.st rfl rfl rfl (E.ST.call rfl ent44 (E.evc rfl (E.evc rfl (E.evc rfl E.evn))) ((within_r q.f2 0 20 false (iff_of_false Bool.false_ne_true h71) _).mono ?_))
                  rintro e w71 ⟨rfl, l71⟩
                  refine ⟨_, rfl, ?_⟩
                  replace b1 := blk_below b1 l71
                  replace b5 := blk_below b5 l71
                  replace L := below_step L l71
                  refine E.GL.run rfl rfl rfl (E.Runs.not rfl rfl) ?_
                  refine E.GL.run rfl rfl rfl (E.Runs.pick_f rfl rfl rfl) ?_
                  refine E.GL.run rfl rfl rfl (E.Runs.move rfl rfl) ?_
                  refine E.GL.skip rfl rfl rfl ?_
                  refine E.GL.skip rfl rfl rfl ?_
                  refine E.GL.skip rfl rfl rfl ?_
                  refine E.GL.skip rfl rfl rfl ?_
                  refine E.GL.run rfl rfl rfl (E.Runs.pick_t rfl rfl rfl) ?_
                  refine E.GL.done ?_
                  refine E.QG.code ?_
                  refine E.CG.cond_t rfl ?_
                  refine E.CG.seq ?_
                  refine E.CG.list ?_
                  refine E.GL.run rfl rfl rfl (E.Runs.assign rfl rfl) ?_
                  refine E.GL.done ?_
                  refine E.QG.code ?_
                  refine E.CG.ret ?_
                  refine E.QG.block_ret ?_
                  refine E.QG.pass_ret ?_
                  refine E.QG.pass_ret ?_
                  refine E.QG.block_ret ?_
                  refine E.QG.pass_ret ?_
                  have hq : ¬ QOk ps.length q := by unfold QOk; unfold inR at *; omega
                  exact E.QG.result rfl rfl ⟨by rw [checkE_no (fun k => hq (k.q q (List.mem_of_getElem? hx)))], L⟩
            · refine E.GL.st rfl rfl rfl (E.ST.call rfl ent44 (E.evc rfl (E.evc rfl (E.evc rfl E.evn))) ((within_r q.f1 (-1) (ps.length - 1) false (iff_of_false Bool.false_ne_true h58) _).mono ?_))
              rintro e w58 ⟨rfl, l58⟩
              refine ⟨_, rfl, ?_⟩
              replace b1 := blk_below b1 l58
              replace b5 := blk_below b5 l58
              replace L := below_step L l58
              refine E.GL.run rfl rfl rfl (E.Runs.not rfl rfl) ?_
              refine E.GL.run rfl rfl rfl (E.Runs.pick_f rfl rfl rfl) ?_
              refine E.GL.run rfl rfl rfl (E.Runs.move rfl rfl) ?_
              refine E.GL.skip rfl rfl rfl ?_
              refine E.GL.skip rfl rfl rfl ?_
              refine E.GL.skip rfl rfl rfl ?_
              refine E.GL.skip rfl rfl rfl ?_
              refine E.GL.skip rfl rfl rfl ?_
              refine E.GL.run rfl rfl rfl (E.Runs.pick_t rfl rfl rfl) ?_
              refine E.GL.run rfl rfl rfl (E.Runs.move rfl rfl) ?_
              refine E.GL.skip rfl rfl rfl ?_
              refine E.GL.skip rfl rfl rfl ?_
              refine E.GL.skip rfl rfl rfl ?_
              refine E.GL.skip rfl rfl rfl ?_
              refine E.GL.run rfl rfl rfl (E.Runs.pick_t rfl rfl rfl) ?_
              refine E.GL.run rfl rfl rfl (E.Runs.move rfl rfl) ?_
              refine E.GL.skip rfl rfl rfl ?_
              refine E.GL.skip rfl rfl rfl ?_
              refine E.GL.skip rfl rfl rfl ?_
              refine E.GL.skip rfl rfl rfl ?_
              refine E.GL.run rfl rfl rfl (E.Runs.pick_t rfl rfl rfl) ?_
              refine E.GL.done ?_
              refine E.QG.code ?_
              refine E.CG.cond_t rfl ?_
              refine E.CG.seq ?_
              refine E.CG.list ?_
              refine E.GL.run rfl rfl rfl (E.Runs.assign rfl rfl) ?_
              refine E.GL.done ?_
              refine E.QG.code ?_
              refine E.CG.ret ?_
              refine E.QG.block_ret ?_
              refine E.QG.pass_ret ?_
              refine E.QG.pass_ret ?_
              refine E.QG.block_ret ?_
              refine E.QG.pass_ret ?_
              have hq : ¬ QOk ps.length q := by unfold QOk; unfold inR at *; omega
              exact E.QG.result rfl rfl ⟨by rw [checkE_no (fun k => hq (k.q q (List.mem_of_getElem? hx)))], L⟩
          · refine E.GL.st rfl rfl rfl (E.ST.call rfl ent44 (E.evc rfl (E.evc rfl (E.evc rfl E.evn))) ((within_r q.f0 0 (ps.length - 1) false (iff_of_false Bool.false_ne_true h49) _).mono ?_))
            rintro e w49 ⟨rfl, l49⟩
            refine ⟨_, rfl, ?_⟩
            replace b1 := blk_below b1 l49
            replace b5 := blk_below b5 l49
            replace L := below_step L l49
            refine E.GL.run rfl rfl rfl (E.Runs.not rfl rfl) ?_
            refine E.GL.run rfl rfl rfl (E.Runs.move rfl rfl) ?_
            refine E.GL.skip rfl rfl rfl ?_
            refine E.GL.skip rfl rfl rfl ?_
            refine E.GL.skip rfl rfl rfl ?_
            refine E.GL.skip rfl rfl rfl ?_
            refine E.GL.skip rfl rfl rfl ?_
            refine E.GL.skip rfl rfl rfl ?_
            refine E.GL.skip rfl rfl rfl ?_
            refine E.GL.skip rfl rfl rfl ?_
            refine E.GL.run rfl rfl rfl (E.Runs.pick_t rfl rfl rfl) ?_
            refine E.GL.run rfl rfl rfl (E.Runs.move rfl rfl) ?_
            refine E.GL.skip rfl rfl rfl ?_
            refine E.GL.skip rfl rfl rfl ?_
            refine E.GL.skip rfl rfl rfl ?_
            refine E.GL.skip rfl rfl rfl ?_
            refine E.GL.skip rfl rfl rfl ?_
            refine E.GL.run rfl rfl rfl (E.Runs.pick_t rfl rfl rfl) ?_
            refine E.GL.run rfl rfl rfl (E.Runs.move rfl rfl) ?_
            refine E.GL.skip rfl rfl rfl ?_
            refine E.GL.skip rfl rfl rfl ?_
            refine E.GL.skip rfl rfl rfl ?_
            refine E.GL.skip rfl rfl rfl ?_
            refine E.GL.run rfl rfl rfl (E.Runs.pick_t rfl rfl rfl) ?_
            refine E.GL.run rfl rfl rfl (E.Runs.move rfl rfl) ?_
            refine E.GL.skip rfl rfl rfl ?_
            refine E.GL.skip rfl rfl rfl ?_
            refine E.GL.skip rfl rfl rfl ?_
            refine E.GL.skip rfl rfl rfl ?_
            refine E.GL.run rfl rfl rfl (E.Runs.pick_t rfl rfl rfl) ?_
            refine E.GL.done ?_
            refine E.QG.code ?_
            refine E.CG.cond_t rfl ?_
            refine E.CG.seq ?_
            refine E.CG.list ?_
            refine E.GL.run rfl rfl rfl (E.Runs.assign rfl rfl) ?_
            refine E.GL.done ?_
            refine E.QG.code ?_
            refine E.CG.ret ?_
            refine E.QG.block_ret ?_
            refine E.QG.pass_ret ?_
            refine E.QG.pass_ret ?_
            refine E.QG.block_ret ?_
            refine E.QG.pass_ret ?_
            have hq : ¬ QOk ps.length q := by unfold QOk; unfold inR at *; omega
            exact E.QG.result rfl rfl ⟨by rw [checkE_no (fun k => hq (k.q q (List.mem_of_getElem? hx)))], L⟩
        · refine E.GL.done ?_
          refine E.QG.code ?_
          refine E.CG.cond_f rfl ?_
          refine E.CG.exit ?_
          refine E.QG.pass_exit ?_
          refine E.QG.pass_exit ?_
          refine E.QG.block_here ?_
          refine E.QG.code ?_
          refine E.CG.seq ?_
          refine E.CG.list ?_
          refine E.GL.run rfl rfl rfl (E.Runs.assign rfl rfl) ?_
          refine E.GL.done ?_
          refine E.QG.code ?_
          refine E.CG.ret ?_
          exact E.QG.result rfl rfl ⟨by rw [checkE_yes ⟨by unfold inR at h9; omega, by unfold inR at h9; omega, by omega, hpo, all_done hok2 (by omega)⟩], L⟩
  · refine E.GL.st rfl rfl rfl (E.ST.call rfl ent44 (E.evc rfl (E.evc rfl (E.evc rfl E.evn))) ((within_r ps.length 1 6 false (iff_of_false Bool.false_ne_true h9) _).mono ?_))
    rintro e w9 ⟨rfl, l9⟩
    refine ⟨_, rfl, ?_⟩
    replace b1 := blk_below b1 l9
    replace L := below_step L l9
    refine E.GL.run rfl rfl rfl (E.Runs.not rfl rfl) ?_
    refine E.GL.run rfl rfl rfl (E.Runs.move rfl rfl) ?_
    refine E.GL.skip rfl rfl rfl ?_
    refine E.GL.skip rfl rfl rfl ?_
    refine E.GL.skip rfl rfl rfl ?_
    refine E.GL.skip rfl rfl rfl ?_
    refine E.GL.run rfl rfl rfl (E.Runs.pick_t rfl rfl rfl) ?_
    refine E.GL.done ?_
    refine E.QG.code ?_
    refine E.CG.cond_t rfl ?_
    refine E.CG.seq ?_
    refine E.CG.list ?_
    refine E.GL.run rfl rfl rfl (E.Runs.assign rfl rfl) ?_
    refine E.GL.done ?_
    refine E.QG.code ?_
    refine E.CG.ret ?_
    refine E.QG.pass_ret ?_
    exact E.QG.result rfl rfl ⟨by rw [checkE_no (fun k => h9 ⟨by have := k.r1; omega, by have := k.r6; omega⟩)], L⟩

set_option maxRecDepth 100000 in
set_option maxHeartbeats 8000000 in

theorem chk45 (ps : List Int) (qs : List S45) (A B : Option Addr) (c d : Nat) (w : World) (hP : Kd.C kI w A ps.length ps) (hQ : Kd.C k45 w B qs.length qs) (hn1 : ps.length ≤ 1000000) (hn2 : qs.length ≤ 1000000) (m : Int) :
    Calls Try.prog 45 #[hv ps qs A B c d, .int .i64 m] w fun e w' => e = .returned (.int .i64 (chkE ps qs m)) ∧ Below w.heap.size w w' := by
  have hu3 := Try.underlying3
  have hu25 := Try.underlying25
  obtain ⟨z3, o3⟩ := info_some info3s (by decide)
  obtain ⟨z25, o25⟩ := info_some info25s (by decide)
  refine E.enter (N := 14) Try.func45 rfl Try.ntmps45 (args := [hv ps qs A B c d, .int .i64 m]) (by simp) ?_
  have L := Below.refl w.heap.size w
  refine E.CG.seq ?_
  refine E.CG.list ?_
  refine E.GL.st rfl rfl rfl (E.ST.box rfl rfl fun g2 w2 e2 b2 l2 => ?_)
  have h2_L : w.heap.size ≤ g2 := by rw [e2]; exact L.size
  replace L := below_step L l2
  refine E.GL.run rfl rfl rfl (E.Runs.assign rfl rfl) ?_
  refine E.GL.done ?_
  refine E.QG.code ?_
  refine E.CG.seq ?_
  refine E.CG.seq ?_
  refine E.CG.list ?_
  refine E.GL.run rfl rfl rfl (E.Runs.loads (cs := [.slice A ps.length c, .slice B qs.length d]) rfl rfl hu25 rfl info25s (blk_cells b2)) ?_
  refine E.GL.st rfl rfl rfl (E.ST.call rfl ent14 (E.evc rfl E.evn) ((check14 ps qs A B c d _ (Kd.C_below hP L) (Kd.C_below hQ L) hn1 hn2).mono ?_))
  rintro e w7 ⟨rfl, l7⟩
  refine ⟨_, rfl, ?_⟩
  replace b2 := blk_below b2 l7
  replace L := below_step L l7
  refine E.GL.run rfl rfl rfl (E.Runs.assign rfl rfl) ?_
  refine E.GL.done ?_
  refine E.QG.code ?_
  refine E.CG.seq ?_
  refine E.CG.list ?_
  refine E.GL.run rfl rfl rfl (E.Runs.move rfl rfl) ?_
  refine E.GL.cmpn rfl rfl rfl (fun _ h => (E.Runs.neq rfl rfl rfl h)) (fun h9 => ?_) (fun h9 => ?_)
  · have hH : ¬ HOk ps qs := fun k => h9 (checkE_yes k)
    refine E.GL.done ?_
    refine E.QG.code ?_
    refine E.CG.cond_t rfl ?_
    refine E.CG.seq ?_
    refine E.CG.list ?_
    refine E.GL.run rfl rfl rfl (E.Runs.move rfl rfl) ?_
    refine E.GL.run rfl rfl rfl (E.Runs.assign rfl rfl) ?_
    refine E.GL.done ?_
    refine E.QG.code ?_
    refine E.CG.ret ?_
    refine E.QG.pass_ret ?_
    exact E.QG.result rfl rfl ⟨by rw [checkE_no hH]; unfold chkE; rw [if_neg hH], L⟩
  · have hH : HOk ps qs := checkE_ok.mp h9
    refine E.GL.done ?_
    refine E.QG.code ?_
    refine E.CG.cond_f rfl ?_
    refine E.CG.skip ?_
    refine E.QG.code ?_
    refine E.CG.seq ?_
    refine E.CG.seq ?_
    refine E.CG.list ?_
    refine E.GL.run rfl rfl rfl (E.Runs.move rfl rfl) ?_
    by_cases h12 : inR m 0 60
    · refine E.GL.st rfl rfl rfl (E.ST.call rfl ent38 (E.evc rfl (E.evc rfl (E.evc rfl E.evn))) ((within_o m 0 60 true (iff_of_true rfl h12) _).mono ?_))
      rintro e w12 ⟨rfl, l12⟩
      refine ⟨_, rfl, ?_⟩
      replace b2 := blk_below b2 l12
      replace L := below_step L l12
      refine E.GL.run rfl rfl rfl (E.Runs.not rfl rfl) ?_
      refine E.GL.done ?_
      refine E.QG.code ?_
      refine E.CG.cond_f rfl ?_
      refine E.CG.skip ?_
      refine E.QG.code ?_
      refine E.CG.seq ?_
      refine E.CG.list ?_
      refine E.GL.run rfl rfl rfl (E.Runs.assign rfl rfl) ?_
      refine E.GL.done ?_
      refine E.QG.code ?_
      refine E.CG.ret ?_
      exact E.QG.result rfl rfl ⟨by unfold chkE; rw [if_pos hH, if_pos h12], L⟩
    · refine E.GL.st rfl rfl rfl (E.ST.call rfl ent38 (E.evc rfl (E.evc rfl (E.evc rfl E.evn))) ((within_o m 0 60 false (iff_of_false Bool.false_ne_true h12) _).mono ?_))
      rintro e w12 ⟨rfl, l12⟩
      refine ⟨_, rfl, ?_⟩
      replace b2 := blk_below b2 l12
      replace L := below_step L l12
      refine E.GL.run rfl rfl rfl (E.Runs.not rfl rfl) ?_
      refine E.GL.done ?_
      refine E.QG.code ?_
      refine E.CG.cond_t rfl ?_
      refine E.CG.seq ?_
      refine E.CG.list ?_
      refine E.GL.run rfl rfl rfl (E.Runs.assign rfl rfl) ?_
      refine E.GL.done ?_
      refine E.QG.code ?_
      refine E.CG.ret ?_
      refine E.QG.pass_ret ?_
      exact E.QG.result rfl rfl ⟨by unfold chkE; rw [if_pos hH, if_neg h12], L⟩

set_option maxRecDepth 100000 in
set_option maxHeartbeats 8000000 in

theorem souls_calls (ps : List Int) (qs : List S45) (A B : Option Addr) (c d : Nat) (w : World) (hP : Kd.C kI w A ps.length ps) (hp : PsOk ps) (hn : ps.length ≤ 40) :
    Calls Try.prog 50 #[hv ps qs A B c d] w fun e w' => e = .returned (.int .i64 (allP ps)) ∧ Below w.heap.size w w' := by
  have hu3 := Try.underlying3
  have hu22 := Try.underlying22
  have hu25 := Try.underlying25
  obtain ⟨z3, o3⟩ := info_some info3s (by decide)
  obtain ⟨z22, o22⟩ := info_some info22s (by decide)
  refine E.enter (N := 17) Try.func50 rfl Try.ntmps50 (args := [hv ps qs A B c d]) (by simp) ?_
  have L := Below.refl w.heap.size w
  refine E.CG.seq ?_
  refine E.CG.list ?_
  refine E.GL.st rfl rfl rfl (E.ST.box rfl rfl fun g1 w1 e1 b1 l1 => ?_)
  have h1_L : w.heap.size ≤ g1 := by rw [e1]; exact L.size
  replace L := below_step L l1
  refine E.GL.run rfl rfl rfl (E.Runs.assign rfl rfl) ?_
  refine E.GL.done ?_
  refine E.QG.code ?_
  refine E.CG.seq ?_
  refine E.CG.seq ?_
  refine E.CG.list ?_
  refine E.GL.run rfl rfl rfl (E.Runs.fieldAddr rfl rfl hu25 rfl (by assumption) rfl) ?_
  refine E.GL.run rfl rfl rfl (E.Runs.load1 rfl rfl hu22 rfl (by first | assumption | exact E.blkc (by assumption) rfl | exact pw_cell_below L (by assumption))) ?_
  refine E.GL.run rfl rfl rfl (E.Runs.len rfl rfl hu22) ?_
  refine E.GL.run rfl rfl rfl (E.Runs.move rfl rfl) ?_
  refine E.GL.done ?_
  refine E.QG.code ?_
  refine E.CG.block ?_
  have s2_b1 := b1
  have s2_L := L
  refine E.CG.loop (fun (i : Nat) => [(2, .int .i64 (sumN (fun r => ps.getD r 0) i)), (6, .slice A ps.length c), (7, .int .i64 ps.length), (8, .int .i64 i)]) (fun i w' => i ≤ ps.length ∧ w'.heap[g1]? = some (.cells #[.slice A ps.length c, .slice B qs.length d] 25 (0, 0)) ∧ Below w.heap.size w w') (fun i => ps.length - i) 0 (E.subc rfl (E.subc rfl (E.subc rfl (E.subc rfl E.subn)))) ⟨Nat.zero_le _, b1, L⟩ ?_
  rintro i w2 ⟨hi, b1, L⟩
  refine E.CG.seq ?_
  refine E.CG.list ?_
  refine E.GL.cmp rfl rfl rfl (fun _ h => (E.Runs.lss rfl rfl rfl h)) (fun h9 => ?_) (fun h9 => ?_)
  · have hbs := sumP_b hp (by omega) i (by omega)
    have hxb := hp _ (getD_mem (z := 0) (show i < ps.length by omega))
    obtain ⟨ad, eA, X⟩ := int_at hP (getD_some (show i < ps.length by omega) 0)
    refine E.GL.done ?_
    refine E.QG.code ?_
    refine E.CG.seq ?_
    refine E.CG.cond_t rfl ?_
    refine E.CG.skip ?_
    refine E.QG.code ?_
    refine E.CG.seq ?_
    refine E.CG.block ?_
    refine E.CG.seq ?_
    refine E.CG.list ?_
    refine E.GL.run rfl rfl rfl (E.Runs.indexAddrA rfl rfl rfl hu22 z3 o3 (show (i : Int) < ps.length by omega) eA rfl) ?_
    refine E.GL.run rfl rfl rfl (E.Runs.load rfl rfl hu3 (pw_cell_below L X)) ?_
    refine E.GL.run rfl rfl rfl (E.Runs.assign rfl rfl) ?_
    refine E.GL.done ?_
    refine E.QG.code ?_
    refine E.CG.list ?_
    refine E.GL.run rfl rfl rfl (E.Runs.move rfl rfl) ?_
    refine E.GL.run rfl rfl rfl (E.Runs.move rfl rfl) ?_
    refine E.GL.run rfl rfl rfl (E.Runs.add rfl rfl rfl (IntWalk.i64_in _ (by omega))) ?_
    refine E.GL.run rfl rfl rfl (E.Runs.assign rfl rfl) ?_
    refine E.GL.done ?_
    refine E.QG.block_normal ?_
    refine E.QG.code ?_
    refine E.CG.list ?_
    refine E.GL.run rfl rfl rfl (E.Runs.add rfl rfl rfl (IntWalk.i64_in _ (by omega))) ?_
    refine E.GL.run rfl rfl rfl (E.Runs.move rfl rfl) ?_
    refine E.GL.done ?_
    exact E.QG.round (i + 1) (E.subc rfl (E.subc rfl (E.subc rfl (E.subc rfl E.subn)))) ⟨by omega, b1, L⟩ (by omega)
  · have hie : i = ps.length := by omega
    refine E.GL.done ?_
    refine E.QG.code ?_
    refine E.CG.seq ?_
    refine E.CG.cond_f rfl ?_
    refine E.CG.exit ?_
    refine E.QG.pass_exit ?_
    refine E.QG.pass_exit ?_
    refine E.QG.block_here ?_
    refine E.QG.code ?_
    refine E.CG.seq ?_
    refine E.CG.list ?_
    refine E.GL.run rfl rfl rfl (E.Runs.move rfl rfl) ?_
    refine E.GL.run rfl rfl rfl (E.Runs.assign rfl rfl) ?_
    refine E.GL.done ?_
    refine E.QG.code ?_
    refine E.CG.ret ?_
    exact E.QG.result rfl rfl ⟨by rw [hie]; rfl, L⟩

set_option maxRecDepth 100000 in
set_option maxHeartbeats 8000000 in

theorem all_calls (ps : List Int) (qs : List S45) (A B : Option Addr) (c d : Nat) (w : World) (hP : Kd.C kI w A ps.length ps) (hp : PsOk ps) (hn : ps.length ≤ 40) :
    Calls Try.prog 29 #[hv ps qs A B c d] w fun e w' => e = .returned (.int .i64 (allP ps)) ∧ Below w.heap.size w w' := by
  have hu3 := Try.underlying3
  have hu22 := Try.underlying22
  have hu25 := Try.underlying25
  obtain ⟨z3, o3⟩ := info_some info3s (by decide)
  obtain ⟨z22, o22⟩ := info_some info22s (by decide)
  refine E.enter (N := 20) Try.func29 rfl Try.ntmps29 (args := [hv ps qs A B c d]) (by simp) ?_
  have L := Below.refl w.heap.size w
  refine E.CG.seq ?_
  refine E.CG.list ?_
  refine E.GL.st rfl rfl rfl (E.ST.box rfl rfl fun g1 w1 e1 b1 l1 => ?_)
  have h1_L : w.heap.size ≤ g1 := by rw [e1]; exact L.size
  replace L := below_step L l1
  refine E.GL.run rfl rfl rfl (E.Runs.assign rfl rfl) ?_
  refine E.GL.done ?_
  refine E.QG.code ?_
  refine E.CG.seq ?_
  refine E.CG.list ?_
  refine E.GL.run rfl rfl rfl (E.Runs.assign rfl rfl) ?_
  refine E.GL.done ?_
  refine E.QG.code ?_
  refine E.CG.seq ?_
  refine E.CG.seq ?_
  refine E.CG.list ?_
  refine E.GL.run rfl rfl rfl (E.Runs.assign rfl rfl) ?_
  refine E.GL.done ?_
  refine E.QG.code ?_
  refine E.CG.block ?_
  have s3_b1 := b1
  have s3_L := L
  refine E.CG.loop (fun (i : Nat) => [(1, .pointer (some ⟨g1, 0, none⟩)), (3, .int .i64 (sumN (fun r => ps.getD r 0) i)), (4, .int .i64 i)]) (fun i w' => i ≤ ps.length ∧ w'.heap[g1]? = some (.cells #[.slice A ps.length c, .slice B qs.length d] 25 (0, 0)) ∧ Below w.heap.size w w') (fun i => ps.length - i) 0 (E.subc rfl (E.subc rfl (E.subc rfl E.subn))) ⟨Nat.zero_le _, b1, L⟩ ?_
  rintro i w3 ⟨hi, b1, L⟩
  refine E.CG.seq ?_
  refine E.CG.seq ?_
  refine E.CG.list ?_
  refine E.GL.run rfl rfl rfl (E.Runs.move rfl rfl) ?_
  refine E.GL.run rfl rfl rfl (E.Runs.fieldAddr rfl rfl hu25 rfl (by assumption) rfl) ?_
  refine E.GL.run rfl rfl rfl (E.Runs.load1 rfl rfl hu22 rfl (by first | assumption | exact E.blkc (by assumption) rfl | exact pw_cell_below L (by assumption))) ?_
  refine E.GL.run rfl rfl rfl (E.Runs.len rfl rfl hu22) ?_
  refine E.GL.cmp rfl rfl rfl (fun _ h => (E.Runs.lss rfl rfl rfl h)) (fun h9 => ?_) (fun h9 => ?_)
  · have hbs := sumP_b hp (by omega) i (by omega)
    have hxb := hp _ (getD_mem (z := 0) (show i < ps.length by omega))
    obtain ⟨ad, eA, X⟩ := int_at hP (getD_some (show i < ps.length by omega) 0)
    refine E.GL.done ?_
    refine E.QG.code ?_
    refine E.CG.cond_t rfl ?_
    refine E.CG.skip ?_
    refine E.QG.code ?_
    refine E.CG.seq ?_
    refine E.CG.block ?_
    refine E.CG.list ?_
    refine E.GL.run rfl rfl rfl (E.Runs.move rfl rfl) ?_
    refine E.GL.run rfl rfl rfl (E.Runs.fieldAddr rfl rfl hu25 rfl (by assumption) rfl) ?_
    refine E.GL.run rfl rfl rfl (E.Runs.load1 rfl rfl hu22 rfl (by first | assumption | exact E.blkc (by assumption) rfl | exact pw_cell_below L (by assumption))) ?_
    refine E.GL.run rfl rfl rfl (E.Runs.move rfl rfl) ?_
    refine E.GL.run rfl rfl rfl (E.Runs.indexAddrA rfl rfl rfl hu22 z3 o3 (show (i : Int) < ps.length by omega) eA rfl) ?_
    refine E.GL.run rfl rfl rfl (E.Runs.load rfl rfl hu3 (pw_cell_below L X)) ?_
    refine E.GL.run rfl rfl rfl (E.Runs.add rfl rfl rfl (IntWalk.i64_in _ (by omega))) ?_
    refine E.GL.run rfl rfl rfl (E.Runs.assign rfl rfl) ?_
    refine E.GL.done ?_
    refine E.QG.block_normal ?_
    refine E.QG.code ?_
    refine E.CG.list ?_
    refine E.GL.run rfl rfl rfl (E.Runs.move rfl rfl) ?_
    refine E.GL.run rfl rfl rfl (E.Runs.add rfl rfl rfl (IntWalk.i64_in _ (by omega))) ?_
    refine E.GL.run rfl rfl rfl (E.Runs.assign rfl rfl) ?_
    refine E.GL.done ?_
    exact E.QG.round (i + 1) (E.subc rfl (E.subc rfl (E.subc rfl E.subn))) ⟨by omega, b1, L⟩ (by omega)
  · have hie : i = ps.length := by omega
    refine E.GL.done ?_
    refine E.QG.code ?_
    refine E.CG.cond_f rfl ?_
    refine E.CG.exit ?_
    refine E.QG.pass_exit ?_
    refine E.QG.pass_exit ?_
    refine E.QG.block_here ?_
    refine E.QG.code ?_
    refine E.CG.seq ?_
    refine E.CG.list ?_
    refine E.GL.run rfl rfl rfl (E.Runs.move rfl rfl) ?_
    refine E.GL.run rfl rfl rfl (E.Runs.assign rfl rfl) ?_
    refine E.GL.done ?_
    refine E.QG.code ?_
    refine E.CG.ret ?_
    exact E.QG.result rfl rfl ⟨by rw [hie]; rfl, L⟩

set_option maxRecDepth 100000 in
set_option maxHeartbeats 8000000 in

theorem most_calls (ps : List Int) (qs : List S45) (A B : Option Addr) (c d : Nat) (w : World) (hP : Kd.C kI w A ps.length ps) (hQ : Kd.C k45 w B qs.length qs) (hn1 : ps.length ≤ 1000000) (hn2 : qs.length ≤ 1000000) (m : Int) :
    Calls Try.prog 28 #[hv ps qs A B c d, .int .i64 m] w fun e w' => ∃ N, e = .returned (.tuple #[.int .i64 N, .int .i64 (chkE ps qs m)]) ∧ MostR ps qs m N ∧ Below w.heap.size w w' := by
  have hu3 := Try.underlying3
  have hu25 := Try.underlying25
  have hu76 := Try.underlying76
  obtain ⟨z3, o3⟩ := info_some info3s (by decide)
  obtain ⟨z25, o25⟩ := info_some info25s (by decide)
  refine E.enter (N := 19) Try.func28 rfl Try.ntmps28 (args := [hv ps qs A B c d, .int .i64 m]) (by simp) ?_
  have L := Below.refl w.heap.size w
  refine E.CG.seq ?_
  refine E.CG.list ?_
  refine E.GL.st rfl rfl rfl (E.ST.box rfl rfl fun g2 w2 e2 b2 l2 => ?_)
  have h2_L : w.heap.size ≤ g2 := by rw [e2]; exact L.size
  replace L := below_step L l2
  refine E.GL.run rfl rfl rfl (E.Runs.assign rfl rfl) ?_
  refine E.GL.run rfl rfl rfl (E.Runs.assign rfl rfl) ?_
  refine E.GL.done ?_
  refine E.QG.code ?_
  refine E.CG.seq ?_
  refine E.CG.seq ?_
  refine E.CG.list ?_
  refine E.GL.run rfl rfl rfl (E.Runs.loads (cs := [.slice A ps.length c, .slice B qs.length d]) rfl rfl hu25 rfl info25s (blk_cells b2)) ?_
  refine E.GL.run rfl rfl rfl (E.Runs.move rfl rfl) ?_
  refine E.GL.st rfl rfl rfl (E.ST.call rfl ent45 (E.evc rfl (E.evc rfl E.evn)) ((chk45 ps qs A B c d _ (Kd.C_below hP L) (Kd.C_below hQ L) hn1 hn2 m).mono ?_))
  rintro e w9 ⟨rfl, l9⟩
  refine ⟨_, rfl, ?_⟩
  replace b2 := blk_below b2 l9
  replace L := below_step L l9
  refine E.GL.run rfl rfl rfl (E.Runs.assign rfl rfl) ?_
  refine E.GL.done ?_
  refine E.QG.code ?_
  refine E.CG.seq ?_
  refine E.CG.list ?_
  refine E.GL.run rfl rfl rfl (E.Runs.move rfl rfl) ?_
  refine E.GL.cmpn rfl rfl rfl (fun _ h => (E.Runs.neq rfl rfl rfl h)) (fun h11 => ?_) (fun h11 => ?_)
  · have hE0 : ¬ chkE ps qs m = 0 := h11
    refine E.GL.done ?_
    refine E.QG.code ?_
    refine E.CG.cond_t rfl ?_
    refine E.CG.seq ?_
    refine E.CG.list ?_
    refine E.GL.run rfl rfl rfl (E.Runs.move rfl rfl) ?_
    refine E.GL.run rfl rfl rfl (E.Runs.assign rfl rfl) ?_
    refine E.GL.run rfl rfl rfl (E.Runs.assign rfl rfl) ?_
    refine E.GL.done ?_
    refine E.QG.code ?_
    refine E.CG.ret ?_
    refine E.QG.pass_ret ?_
    exact E.QG.result2 rfl rfl rfl ⟨0, rfl, mostR_no hE0, L⟩
  · have hE0 := h11
    obtain ⟨hH, hm0, hm1⟩ := chkE_ok.mp h11
    obtain ⟨T, rfl⟩ : ∃ T : Nat, m = T := ⟨m.toNat, by omega⟩
    have hT : T ≤ 60 := by omega
    have hLs := L.size
    refine E.GL.done ?_
    refine E.QG.code ?_
    refine E.CG.cond_f rfl ?_
    refine E.CG.skip ?_
    refine E.QG.code ?_
    refine E.CG.seq ?_
    refine E.CG.list ?_
    refine E.GL.run rfl rfl rfl (E.Runs.loads (cs := [.slice A ps.length c, .slice B qs.length d]) rfl rfl hu25 rfl info25s (blk_cells b2)) ?_
    refine E.GL.run rfl rfl rfl (E.Runs.move rfl rfl) ?_
    refine E.GL.st rfl rfl rfl (E.ST.call rfl ent51 (E.evc rfl (E.evc rfl E.evn)) ((flow_calls ps qs T A B c d _ hH hT (Kd.C_below hP L) (Kd.C_below hQ L)).mono ?_))
    rintro e w15 ⟨gN, gE, out, f, rfl, hN, hM, l15⟩
    refine ⟨_, rfl, ?_⟩
    replace b2 := blk_below b2 l15
    replace L := below_step L l15
    have hLs15 := L.size
    refine E.GL.run rfl rfl rfl (E.Runs.nilCheck rfl rfl) ?_
    refine E.GL.run rfl rfl rfl (E.Runs.fieldAddr rfl rfl hu76 rfl (by assumption) rfl) ?_
    refine E.GL.run rfl rfl rfl (E.Runs.load rfl rfl hu3 (E.blkc hN.blk rfl)) ?_
    refine E.GL.run rfl rfl rfl (E.Runs.assign rfl rfl) ?_
    refine E.GL.run rfl rfl rfl (E.Runs.assign rfl rfl) ?_
    refine E.GL.done ?_
    refine E.QG.code ?_
    refine E.CG.ret ?_
    exact E.QG.result2 rfl rfl rfl ⟨out, by rw [hE0], mostR_yes hE0 (hM.most hH), L⟩

set_option maxRecDepth 100000 in
set_option maxHeartbeats 8000000 in

theorem plan_calls (ps : List Int) (qs : List S45) (A B : Option Addr) (c d : Nat) (w : World) (hP : Kd.C kI w A ps.length ps) (hQ : Kd.C k45 w B qs.length qs) (hn1 : ps.length ≤ 1000000) (hn2 : qs.length ≤ 1000000) (m : Int) :
    Calls Try.prog 31 #[hv ps qs A B c d, .int .i64 m] w fun e w' => ∃ v l, e = .returned (.tuple #[v, .int .i64 (chkE ps qs m)]) ∧ Kd.R k35 35 w' w.heap.size (fun _ => True) v l ∧ PlanR ps qs m l ∧ Below w.heap.size w w' := by
  have hu3 := Try.underlying3
  have hu25 := Try.underlying25
  have hu76 := Try.underlying76
  obtain ⟨z3, o3⟩ := info_some info3s (by decide)
  obtain ⟨z25, o25⟩ := info_some info25s (by decide)
  refine E.enter (N := 17) Try.func31 rfl Try.ntmps31 (args := [hv ps qs A B c d, .int .i64 m]) (by simp) ?_
  have L := Below.refl w.heap.size w
  refine E.CG.seq ?_
  refine E.CG.list ?_
  refine E.GL.st rfl rfl rfl (E.ST.box rfl rfl fun g2 w2 e2 b2 l2 => ?_)
  have h2_L : w.heap.size ≤ g2 := by rw [e2]; exact L.size
  replace L := below_step L l2
  refine E.GL.run rfl rfl rfl (E.Runs.assign rfl rfl) ?_
  refine E.GL.run rfl rfl rfl (E.Runs.assign rfl rfl) ?_
  refine E.GL.done ?_
  refine E.QG.code ?_
  refine E.CG.seq ?_
  refine E.CG.seq ?_
  refine E.CG.list ?_
  refine E.GL.run rfl rfl rfl (E.Runs.loads (cs := [.slice A ps.length c, .slice B qs.length d]) rfl rfl hu25 rfl info25s (blk_cells b2)) ?_
  refine E.GL.run rfl rfl rfl (E.Runs.move rfl rfl) ?_
  refine E.GL.st rfl rfl rfl (E.ST.call rfl ent45 (E.evc rfl (E.evc rfl E.evn)) ((chk45 ps qs A B c d _ (Kd.C_below hP L) (Kd.C_below hQ L) hn1 hn2 m).mono ?_))
  rintro e w9 ⟨rfl, l9⟩
  refine ⟨_, rfl, ?_⟩
  replace b2 := blk_below b2 l9
  replace L := below_step L l9
  refine E.GL.run rfl rfl rfl (E.Runs.assign rfl rfl) ?_
  refine E.GL.done ?_
  refine E.QG.code ?_
  refine E.CG.seq ?_
  refine E.CG.list ?_
  refine E.GL.run rfl rfl rfl (E.Runs.move rfl rfl) ?_
  refine E.GL.cmpn rfl rfl rfl (fun _ h => (E.Runs.neq rfl rfl rfl h)) (fun h11 => ?_) (fun h11 => ?_)
  · have hE0 : ¬ chkE ps qs m = 0 := h11
    refine E.GL.done ?_
    refine E.QG.code ?_
    refine E.CG.cond_t rfl ?_
    refine E.CG.seq ?_
    refine E.CG.list ?_
    refine E.GL.run rfl rfl rfl (E.Runs.move rfl rfl) ?_
    refine E.GL.run rfl rfl rfl (E.Runs.assign rfl rfl) ?_
    refine E.GL.run rfl rfl rfl (E.Runs.assign rfl rfl) ?_
    refine E.GL.done ?_
    refine E.QG.code ?_
    refine E.CG.ret ?_
    refine E.QG.pass_ret ?_
    exact E.QG.result2 rfl rfl rfl ⟨_, [], rfl, Kd.R_nil _ _ _ _ _, planR_no hE0, L⟩
  · have hE0 := h11
    obtain ⟨hH, hm0, hm1⟩ := chkE_ok.mp h11
    obtain ⟨T, rfl⟩ : ∃ T : Nat, m = T := ⟨m.toNat, by omega⟩
    have hT : T ≤ 60 := by omega
    have hLs := L.size
    refine E.GL.done ?_
    refine E.QG.code ?_
    refine E.CG.cond_f rfl ?_
    refine E.CG.skip ?_
    refine E.QG.code ?_
    refine E.CG.seq ?_
    refine E.CG.list ?_
    refine E.GL.run rfl rfl rfl (E.Runs.loads (cs := [.slice A ps.length c, .slice B qs.length d]) rfl rfl hu25 rfl info25s (blk_cells b2)) ?_
    refine E.GL.run rfl rfl rfl (E.Runs.move rfl rfl) ?_
    refine E.GL.st rfl rfl rfl (E.ST.call rfl ent51 (E.evc rfl (E.evc rfl E.evn)) ((flow_calls ps qs T A B c d _ hH hT (Kd.C_below hP L) (Kd.C_below hQ L)).mono ?_))
    rintro e w15 ⟨gN, gE, out, f, rfl, hN, hM, l15⟩
    refine ⟨_, rfl, ?_⟩
    replace b2 := blk_below b2 l15
    replace L := below_step L l15
    have hLs15 := L.size
    refine E.GL.st rfl rfl rfl (E.ST.call rfl ent55 (E.evc rfl E.evn) ((moves_calls gN _ gE (nodeN T ps.length 0) _ out (edH ps qs T) f qs B d _ hN rfl (Kd.C_below hQ L) (by have := nodes_few hH hT; omega) (by have := edH_len hH hT; omega) (edH_rows hH hM.ok) (fun q hq => by have := hH.q q hq; unfold QOk at this; omega)).mono ?_))
    rintro e w16 ⟨v16, rfl, R16, l16⟩
    refine ⟨_, rfl, ?_⟩
    replace b2 := blk_below b2 l16
    replace L := below_step L l16
    refine E.GL.run rfl rfl rfl (E.Runs.assign rfl rfl) ?_
    refine E.GL.run rfl rfl rfl (E.Runs.assign rfl rfl) ?_
    refine E.GL.done ?_
    refine E.QG.code ?_
    refine E.CG.ret ?_
    exact E.QG.result2 rfl rfl rfl ⟨_, _, by rw [hE0], Kd.R_lower R16 hLs15, planR_yes hE0 ⟨f, out, hM, rfl⟩, L⟩

set_option maxRecDepth 100000 in
set_option maxHeartbeats 8000000 in

theorem proof_calls (ps : List Int) (qs : List S45) (A B : Option Addr) (c d : Nat) (w : World) (hP : Kd.C kI w A ps.length ps) (hQ : Kd.C k45 w B qs.length qs) (hn1 : ps.length ≤ 1000000) (hn2 : qs.length ≤ 1000000) (m : Int) :
    Calls Try.prog 32 #[hv ps qs A B c d, .int .i64 m] w fun e w' => ∃ v l, e = .returned (.tuple #[v, .int .i64 (chkE ps qs m)]) ∧ Kd.R kI 3 w' w.heap.size (fun _ => True) v l ∧ ProofR ps qs m l ∧ Below w.heap.size w w' := by
  have hu3 := Try.underlying3
  have hu25 := Try.underlying25
  have hu76 := Try.underlying76
  obtain ⟨z3, o3⟩ := info_some info3s (by decide)
  obtain ⟨z25, o25⟩ := info_some info25s (by decide)
  refine E.enter (N := 17) Try.func32 rfl Try.ntmps32 (args := [hv ps qs A B c d, .int .i64 m]) (by simp) ?_
  have L := Below.refl w.heap.size w
  refine E.CG.seq ?_
  refine E.CG.list ?_
  refine E.GL.st rfl rfl rfl (E.ST.box rfl rfl fun g2 w2 e2 b2 l2 => ?_)
  have h2_L : w.heap.size ≤ g2 := by rw [e2]; exact L.size
  replace L := below_step L l2
  refine E.GL.run rfl rfl rfl (E.Runs.assign rfl rfl) ?_
  refine E.GL.run rfl rfl rfl (E.Runs.assign rfl rfl) ?_
  refine E.GL.done ?_
  refine E.QG.code ?_
  refine E.CG.seq ?_
  refine E.CG.seq ?_
  refine E.CG.list ?_
  refine E.GL.run rfl rfl rfl (E.Runs.loads (cs := [.slice A ps.length c, .slice B qs.length d]) rfl rfl hu25 rfl info25s (blk_cells b2)) ?_
  refine E.GL.run rfl rfl rfl (E.Runs.move rfl rfl) ?_
  refine E.GL.st rfl rfl rfl (E.ST.call rfl ent45 (E.evc rfl (E.evc rfl E.evn)) ((chk45 ps qs A B c d _ (Kd.C_below hP L) (Kd.C_below hQ L) hn1 hn2 m).mono ?_))
  rintro e w9 ⟨rfl, l9⟩
  refine ⟨_, rfl, ?_⟩
  replace b2 := blk_below b2 l9
  replace L := below_step L l9
  refine E.GL.run rfl rfl rfl (E.Runs.assign rfl rfl) ?_
  refine E.GL.done ?_
  refine E.QG.code ?_
  refine E.CG.seq ?_
  refine E.CG.list ?_
  refine E.GL.run rfl rfl rfl (E.Runs.move rfl rfl) ?_
  refine E.GL.cmpn rfl rfl rfl (fun _ h => (E.Runs.neq rfl rfl rfl h)) (fun h11 => ?_) (fun h11 => ?_)
  · have hE0 : ¬ chkE ps qs m = 0 := h11
    refine E.GL.done ?_
    refine E.QG.code ?_
    refine E.CG.cond_t rfl ?_
    refine E.CG.seq ?_
    refine E.CG.list ?_
    refine E.GL.run rfl rfl rfl (E.Runs.move rfl rfl) ?_
    refine E.GL.run rfl rfl rfl (E.Runs.assign rfl rfl) ?_
    refine E.GL.run rfl rfl rfl (E.Runs.assign rfl rfl) ?_
    refine E.GL.done ?_
    refine E.QG.code ?_
    refine E.CG.ret ?_
    refine E.QG.pass_ret ?_
    exact E.QG.result2 rfl rfl rfl ⟨_, [], rfl, Kd.R_nil _ _ _ _ _, proofR_no hE0, L⟩
  · have hE0 := h11
    obtain ⟨hH, hm0, hm1⟩ := chkE_ok.mp h11
    obtain ⟨T, rfl⟩ : ∃ T : Nat, m = T := ⟨m.toNat, by omega⟩
    have hT : T ≤ 60 := by omega
    have hLs := L.size
    refine E.GL.done ?_
    refine E.QG.code ?_
    refine E.CG.cond_f rfl ?_
    refine E.CG.skip ?_
    refine E.QG.code ?_
    refine E.CG.seq ?_
    refine E.CG.list ?_
    refine E.GL.run rfl rfl rfl (E.Runs.loads (cs := [.slice A ps.length c, .slice B qs.length d]) rfl rfl hu25 rfl info25s (blk_cells b2)) ?_
    refine E.GL.run rfl rfl rfl (E.Runs.move rfl rfl) ?_
    refine E.GL.st rfl rfl rfl (E.ST.call rfl ent51 (E.evc rfl (E.evc rfl E.evn)) ((flow_calls ps qs T A B c d _ hH hT (Kd.C_below hP L) (Kd.C_below hQ L)).mono ?_))
    rintro e w15 ⟨gN, gE, out, f, rfl, hN, hM, l15⟩
    refine ⟨_, rfl, ?_⟩
    replace b2 := blk_below b2 l15
    replace L := below_step L l15
    have hLs15 := L.size
    refine E.GL.st rfl rfl rfl (E.ST.call rfl ent56 (E.evc rfl E.evn) ((hours_calls gN _ gE (nodeN T ps.length 0) _ out (edH ps qs T) f ps A c T _ hN rfl rfl (edH_ok hH) rfl hT hH.r6 (by have := edH_len hH hT; omega)).mono ?_))
    rintro e w16 ⟨v16, bl, il, rfl, hK, R16, l16⟩
    refine ⟨_, rfl, ?_⟩
    replace b2 := blk_below b2 l16
    replace L := below_step L l16
    refine E.GL.run rfl rfl rfl (E.Runs.assign rfl rfl) ?_
    refine E.GL.run rfl rfl rfl (E.Runs.assign rfl rfl) ?_
    refine E.GL.done ?_
    refine E.QG.code ?_
    refine E.CG.ret ?_
    exact E.QG.result2 rfl rfl rfl ⟨_, _, by rw [hE0], Kd.R_lower R16 hLs15, proofR_yes hE0 ⟨f, out, bl, il, hM, hK, rfl⟩, L⟩

end Go.Proofs.Ytmnjlnkfihklgaa.T
namespace Go.Proofs.Ytmnjlnkfihklgaa.T
open Go.RowKit Go.Proofs.YtmnjlnkfihklgaaW.PrintWords Go.Proofs.YtmnjlnkfihklgaaW.PrintMore
open Go.Proofs.Ytmnjlnkfihklgaa.P
set_option linter.unusedVariables false
set_option linter.unusedSimpArgs false

/-- What Empty returns. -/
def EmptyR (ps : List Int) (qs : List S45) (N E : Int) : Prop :=
  (¬ HOk ps qs → N = 0 ∧ E = 110) ∧ (HOk ps qs → (∃ t : Nat, t ≤ 60 ∧ N = t ∧ E = 0 ∧ IsMost ps qs t (allP ps) ∧ ∀ s : Nat, s < t → ¬ IsMost ps qs s (allP ps)) ∨ (N = 0 ∧ E = 3 ∧ ∀ s : Nat, s ≤ 60 → ¬ IsMost ps qs s (allP ps)))
set_option maxRecDepth 100000 in
set_option maxHeartbeats 8000000 in

theorem empty_calls (ps : List Int) (qs : List S45) (A B : Option Addr) (c d : Nat) (w : World) (hP : Kd.C kI w A ps.length ps) (hQ : Kd.C k45 w B qs.length qs) (hn1 : ps.length ≤ 1000000) (hn2 : qs.length ≤ 1000000) :
    Calls Try.prog 21 #[hv ps qs A B c d] w fun e w' => ∃ N E, e = .returned (.tuple #[.int .i64 N, .int .i64 E]) ∧ EmptyR ps qs N E ∧ Below w.heap.size w w' := by
  have hu3 := Try.underlying3
  have hu25 := Try.underlying25
  have hu76 := Try.underlying76
  obtain ⟨z3, o3⟩ := info_some info3s (by decide)
  obtain ⟨z25, o25⟩ := info_some info25s (by decide)
  refine E.enter (N := 27) Try.func21 rfl Try.ntmps21 (args := [hv ps qs A B c d]) (by simp) ?_
  have L := Below.refl w.heap.size w
  refine E.CG.seq ?_
  refine E.CG.list ?_
  refine E.GL.st rfl rfl rfl (E.ST.box rfl rfl fun g1 w1 e1 b1 l1 => ?_)
  have h1_L : w.heap.size ≤ g1 := by rw [e1]; exact L.size
  replace L := below_step L l1
  refine E.GL.run rfl rfl rfl (E.Runs.assign rfl rfl) ?_
  refine E.GL.run rfl rfl rfl (E.Runs.assign rfl rfl) ?_
  refine E.GL.done ?_
  refine E.QG.code ?_
  refine E.CG.seq ?_
  refine E.CG.seq ?_
  refine E.CG.list ?_
  refine E.GL.run rfl rfl rfl (E.Runs.loads (cs := [.slice A ps.length c, .slice B qs.length d]) rfl rfl hu25 rfl info25s (blk_cells b1)) ?_
  refine E.GL.st rfl rfl rfl (E.ST.call rfl ent14 (E.evc rfl E.evn) ((check14 ps qs A B c d _ (Kd.C_below hP L) (Kd.C_below hQ L) hn1 hn2).mono ?_))
  rintro e w8 ⟨rfl, l8⟩
  refine ⟨_, rfl, ?_⟩
  replace b1 := blk_below b1 l8
  replace L := below_step L l8
  refine E.GL.run rfl rfl rfl (E.Runs.assign rfl rfl) ?_
  refine E.GL.done ?_
  refine E.QG.code ?_
  refine E.CG.seq ?_
  refine E.CG.list ?_
  refine E.GL.run rfl rfl rfl (E.Runs.move rfl rfl) ?_
  refine E.GL.cmpn rfl rfl rfl (fun _ h => (E.Runs.neq rfl rfl rfl h)) (fun h10 => ?_) (fun h10 => ?_)
  · have hH : ¬ HOk ps qs := fun k => h10 (checkE_yes k)
    refine E.GL.done ?_
    refine E.QG.code ?_
    refine E.CG.cond_t rfl ?_
    refine E.CG.seq ?_
    refine E.CG.list ?_
    refine E.GL.run rfl rfl rfl (E.Runs.move rfl rfl) ?_
    refine E.GL.run rfl rfl rfl (E.Runs.assign rfl rfl) ?_
    refine E.GL.run rfl rfl rfl (E.Runs.assign rfl rfl) ?_
    refine E.GL.done ?_
    refine E.QG.code ?_
    refine E.CG.ret ?_
    refine E.QG.pass_ret ?_
    exact E.QG.result2 rfl rfl rfl ⟨0, 110, by rw [checkE_no hH], ⟨fun _ => ⟨rfl, rfl⟩, fun k => absurd k hH⟩, L⟩
  · have hH : HOk ps qs := checkE_ok.mp h10
    refine E.GL.done ?_
    refine E.QG.code ?_
    refine E.CG.cond_f rfl ?_
    refine E.CG.skip ?_
    refine E.QG.code ?_
    refine E.CG.seq ?_
    refine E.CG.list ?_
    refine E.GL.run rfl rfl rfl (E.Runs.loads (cs := [.slice A ps.length c, .slice B qs.length d]) rfl rfl hu25 rfl info25s (blk_cells b1)) ?_
    refine E.GL.st rfl rfl rfl (E.ST.call rfl ent50 (E.evc rfl E.evn) ((souls_calls ps qs A B c d _ (Kd.C_below hP L) hH.p (by have := hH.r6; omega)).mono ?_))
    rintro e w13 ⟨rfl, l13⟩
    refine ⟨_, rfl, ?_⟩
    replace b1 := blk_below b1 l13
    replace L := below_step L l13
    refine E.GL.run rfl rfl rfl (E.Runs.assign rfl rfl) ?_
    refine E.GL.done ?_
    refine E.QG.code ?_
    refine E.CG.seq ?_
    refine E.CG.seq ?_
    refine E.CG.list ?_
    refine E.GL.run rfl rfl rfl (E.Runs.move rfl rfl) ?_
    refine E.GL.done ?_
    refine E.QG.code ?_
    refine E.CG.block ?_
    have s6_b1 := b1
    have s6_L := L
    refine E.CG.loop (fun (t : Nat) => [(1, .pointer (some ⟨g1, 0, none⟩)), (5, .int .i64 (allP ps)), (14, .int .i64 t)]) (fun t w' => t ≤ 61 ∧ w'.heap[g1]? = some (.cells #[.slice A ps.length c, .slice B qs.length d] 25 (0, 0)) ∧ Below w.heap.size w w' ∧ ∀ s : Nat, s < t → ¬ IsMost ps qs s (allP ps)) (fun t => 61 - t) 0 (E.subc rfl (E.subc rfl (E.subc rfl E.subn))) ⟨by omega, b1, L, fun s hs => by omega⟩ ?_
    rintro t w6 ⟨ht, b1, L, hno⟩
    refine E.CG.seq ?_
    refine E.CG.list ?_
    refine E.GL.cmp rfl rfl rfl (fun _ h => (E.Runs.lss rfl rfl rfl h)) (fun h15 => ?_) (fun h15 => ?_)
    · have ht60 : t ≤ 60 := by omega
      refine E.GL.done ?_
      refine E.QG.code ?_
      refine E.CG.seq ?_
      refine E.CG.cond_t rfl ?_
      refine E.CG.skip ?_
      refine E.QG.code ?_
      refine E.CG.seq ?_
      refine E.CG.block ?_
      refine E.CG.seq ?_
      refine E.CG.list ?_
      refine E.GL.run rfl rfl rfl (E.Runs.move rfl rfl) ?_
      refine E.GL.run rfl rfl rfl (E.Runs.assign rfl rfl) ?_
      refine E.GL.done ?_
      refine E.QG.code ?_
      refine E.CG.seq ?_
      refine E.CG.list ?_
      refine E.GL.run rfl rfl rfl (E.Runs.loads (cs := [.slice A ps.length c, .slice B qs.length d]) rfl rfl hu25 rfl info25s (blk_cells b1)) ?_
      refine E.GL.run rfl rfl rfl (E.Runs.move rfl rfl) ?_
      refine E.GL.st rfl rfl rfl (E.ST.call rfl ent51 (E.evc rfl (E.evc rfl E.evn)) ((flow_calls ps qs t A B c d _ hH ht60 (Kd.C_below hP L) (Kd.C_below hQ L)).mono ?_))
      rintro e w19 ⟨gN, gE, out, f, rfl, hN, hM, l19⟩
      refine ⟨_, rfl, ?_⟩
      replace b1 := blk_below b1 l19
      replace L := below_step L l19
      refine E.GL.run rfl rfl rfl (E.Runs.nilCheck rfl rfl) ?_
      refine E.GL.run rfl rfl rfl (E.Runs.fieldAddr rfl rfl hu76 rfl (by assumption) rfl) ?_
      refine E.GL.run rfl rfl rfl (E.Runs.load rfl rfl hu3 (E.blkc hN.blk rfl)) ?_
      refine E.GL.run rfl rfl rfl (E.Runs.move rfl rfl) ?_
      refine E.GL.cmp rfl rfl rfl (fun _ h => (E.Runs.eql rfl rfl rfl h)) (fun h24 => ?_) (fun h24 => ?_)
      · have hIs := hM.most hH
        rw [h24] at hIs
        refine E.GL.done ?_
        refine E.QG.code ?_
        refine E.CG.cond_t rfl ?_
        refine E.CG.seq ?_
        refine E.CG.list ?_
        refine E.GL.run rfl rfl rfl (E.Runs.move rfl rfl) ?_
        refine E.GL.run rfl rfl rfl (E.Runs.assign rfl rfl) ?_
        refine E.GL.run rfl rfl rfl (E.Runs.assign rfl rfl) ?_
        refine E.GL.done ?_
        refine E.QG.code ?_
        refine E.CG.ret ?_
        refine E.QG.block_ret ?_
        refine E.QG.pass_ret ?_
        refine E.QG.pass_ret ?_
        refine E.QG.block_ret ?_
        refine E.QG.pass_ret ?_
        exact E.QG.result2 rfl rfl rfl ⟨_, 0, rfl, ⟨fun k => absurd hH k, fun _ => .inl ⟨t, ht60, rfl, rfl, hIs, hno⟩⟩, L⟩
      · have hIs : ¬ IsMost ps qs t (allP ps) := fun k => h24 ((hM.most hH).one hH k)
        refine E.GL.done ?_
        refine E.QG.code ?_
        refine E.CG.cond_f rfl ?_
        refine E.CG.skip ?_
        refine E.QG.block_normal ?_
        refine E.QG.code ?_
        refine E.CG.list ?_
        refine E.GL.run rfl rfl rfl (E.Runs.add rfl rfl rfl (IntWalk.i64_in _ (by omega))) ?_
        refine E.GL.run rfl rfl rfl (E.Runs.move rfl rfl) ?_
        refine E.GL.done ?_
        exact E.QG.round (t + 1) (E.subc rfl (E.subc rfl (E.subc rfl E.subn))) ⟨by omega, b1, L, lt_succ_all hno hIs⟩ (by omega)
    · refine E.GL.done ?_
      refine E.QG.code ?_
      refine E.CG.seq ?_
      refine E.CG.cond_f rfl ?_
      refine E.CG.exit ?_
      refine E.QG.pass_exit ?_
      refine E.QG.pass_exit ?_
      refine E.QG.block_here ?_
      refine E.QG.code ?_
      refine E.CG.seq ?_
      refine E.CG.list ?_
      refine E.GL.run rfl rfl rfl (E.Runs.assign rfl rfl) ?_
      refine E.GL.run rfl rfl rfl (E.Runs.assign rfl rfl) ?_
      refine E.GL.done ?_
      refine E.QG.code ?_
      refine E.CG.ret ?_
      exact E.QG.result2 rfl rfl rfl ⟨0, 3, rfl, ⟨fun k => absurd hH k, fun _ => .inr ⟨rfl, rfl, fun s hs => hno s (by omega)⟩⟩, L⟩

end Go.Proofs.Ytmnjlnkfihklgaa.T
namespace Go.Proofs.Ytmnjlnkfihklgaa.T
open Go.RowKit Go.Proofs.YtmnjlnkfihklgaaW.PrintWords Go.Proofs.YtmnjlnkfihklgaaW.PrintMore
open Go.Proofs.Ytmnjlnkfihklgaa.P
set_option linter.unusedVariables false
set_option linter.unusedSimpArgs false

set_option maxRecDepth 100000 in
theorem eqNil22 (A : Option Addr) (n c : Nat) (W : World) : (Op.equal 22 (.slice A n c) (.slice none 0 0)).run Try.prog W = .ok A.isNone W := by
  have hu22 := Try.underlying22
  unfold Op.equal Op.maxDepth
  rw [show (10000 : Nat) = 9999 + 1 from rfl]
  cases A <;> (unfold Op.equalIn; go_simp)
set_option maxRecDepth 100000 in
theorem eqNil23 (A : Option Addr) (n c : Nat) (W : World) : (Op.equal 23 (.slice A n c) (.slice none 0 0)).run Try.prog W = .ok A.isNone W := by
  have hu23 := Try.underlying23
  unfold Op.equal Op.maxDepth
  rw [show (10000 : Nat) = 9999 + 1 from rfl]
  cases A <;> (unfold Op.equalIn; go_simp)
set_option maxRecDepth 100000 in
theorem lit22n (W : World) : (Instr.buildSlice 22 0 #[]).run Try.prog W = .ok (.slice (some ⟨W.heap.size, 0, none⟩) 0 0) (W.alloc (.cells #[] 3)) := by
  have hu22 := Try.underlying22
  go_simp
set_option maxRecDepth 100000 in
theorem lit23n (W : World) : (Instr.buildSlice 23 0 #[]).run Try.prog W = .ok (.slice (some ⟨W.heap.size, 0, none⟩) 0 0) (W.alloc (.cells #[] 45)) := by
  have hu23 := Try.underlying23
  go_simp
theorem C_none {α : Type} {d : Kd α} {w : World} {xs : List α} (h : Kd.C d w none xs.length xs) : xs = [] := by
  cases xs with
  | nil => rfl
  | cons a l =>
    obtain ⟨ad, c, e, _⟩ := Kd.C_get h a 0 (by omega) (by simp only [List.length_cons]; omega)
    cases e
theorem made22 {W : World} {base : Nat} : ∀ (x : Int) cs, kI.K W x cs → kI.M W base (fun _ => False) x cs := fun x cs h => h
theorem made23 {W : World} {base : Nat} : ∀ (x : S45) cs, k45.K W x cs → k45.M W base (fun _ => False) x cs := fun x cs h => by
  obtain rfl := k45_open h
  exact k45_mkM _ _ _ _
set_option maxRecDepth 100000 in
set_option maxHeartbeats 8000000 in

theorem clone47 (l : List Int) (A : Option Addr) (c : Nat) (w : World) (hr : Kd.C kI w A l.length l) (hn : l.length ≤ 1000000) :
    Calls Try.prog 47 #[.slice A l.length c] w fun e w' => ∃ v, e = .returned v ∧ Kd.R kI 3 w' w.heap.size (fun _ => True) v l ∧ Below w.heap.size w w' := by
  have hu22 := Try.underlying22
  refine E.enter (N := 8) Try.func47 rfl Try.ntmps47 (args := [.slice A l.length c]) (by simp) ?_
  have L := Below.refl w.heap.size w
  refine E.CG.seq ?_
  refine E.CG.list ?_
  refine E.GL.run rfl rfl rfl (E.Runs.assign rfl rfl) ?_
  refine E.GL.done ?_
  refine E.QG.code ?_
  refine E.CG.seq ?_
  refine E.CG.seq ?_
  refine E.CG.list ?_
  refine E.GL.run rfl rfl rfl (E.Runs.move rfl rfl) ?_
  rcases A with _ | ad
  · refine E.GL.run rfl rfl rfl (E.Runs.eqlv rfl rfl rfl rfl (fun _ _ _ => rfl) (eqNil22 _ _ _)) ?_
    refine E.GL.done ?_
    refine E.QG.code ?_
    refine E.CG.cond_t rfl ?_
    refine E.CG.seq ?_
    refine E.CG.list ?_
    refine E.GL.run rfl rfl rfl (E.Runs.assign rfl rfl) ?_
    refine E.GL.done ?_
    refine E.QG.code ?_
    refine E.CG.ret ?_
    refine E.QG.pass_ret ?_
    have hl : l = [] := C_none hr
    subst hl
    exact E.QG.result rfl rfl ⟨_, rfl, Kd.R_nil _ _ _ _ _, L⟩
  · refine E.GL.run rfl rfl rfl (E.Runs.eqlv rfl rfl rfl rfl (fun _ _ _ => rfl) (eqNil22 _ _ _)) ?_
    refine E.GL.done ?_
    refine E.QG.code ?_
    refine E.CG.cond_f rfl ?_
    refine E.CG.skip ?_
    refine E.QG.code ?_
    refine E.CG.seq ?_
    refine E.CG.list ?_
    refine E.GL.st rfl rfl rfl (E.ST.litAt kI w.heap.size (w0 := w) (ys := ([] : List Int)) (inner := []) rfl rfl E.epn lit22n (Reps.none _ _) L L.size (by simp) fun u5 w5 r5 k5 l5 n5 => ?_)
    replace L := k5
    refine E.GL.run rfl rfl rfl (E.Runs.move rfl rfl) ?_
    refine E.GL.st rfl rfl rfl (E.ST.appendRows kI w.heap.size (w0 := w) (s := .tmp 5) (x := .tmp 6) rfl hu22 info3 rfl (by decide) (by decide) rfl rfl r5 (Kd.C_below hr L) made22 L L.size (by simp only [List.length_nil]; omega) fun u7 w7 r7 k7 g7 => ?_)
    replace L := k7
    refine E.GL.run rfl rfl rfl (E.Runs.assign rfl rfl) ?_
    refine E.GL.done ?_
    refine E.QG.code ?_
    refine E.CG.ret ?_
    exact E.QG.result rfl rfl ⟨_, rfl, by simpa using r7, L⟩

set_option maxRecDepth 100000 in
set_option maxHeartbeats 8000000 in

theorem clone53 (l : List S45) (A : Option Addr) (c : Nat) (w : World) (hr : Kd.C k45 w A l.length l) (hn : l.length ≤ 1000000) :
    Calls Try.prog 53 #[.slice A l.length c] w fun e w' => ∃ v, e = .returned v ∧ Kd.R k45 45 w' w.heap.size (fun _ => True) v l ∧ Below w.heap.size w w' := by
  have hu23 := Try.underlying23
  refine E.enter (N := 8) Try.func53 rfl Try.ntmps53 (args := [.slice A l.length c]) (by simp) ?_
  have L := Below.refl w.heap.size w
  refine E.CG.seq ?_
  refine E.CG.list ?_
  refine E.GL.run rfl rfl rfl (E.Runs.assign rfl rfl) ?_
  refine E.GL.done ?_
  refine E.QG.code ?_
  refine E.CG.seq ?_
  refine E.CG.seq ?_
  refine E.CG.list ?_
  refine E.GL.run rfl rfl rfl (E.Runs.move rfl rfl) ?_
  rcases A with _ | ad
  · refine E.GL.run rfl rfl rfl (E.Runs.eqlv rfl rfl rfl rfl (fun _ _ _ => rfl) (eqNil23 _ _ _)) ?_
    refine E.GL.done ?_
    refine E.QG.code ?_
    refine E.CG.cond_t rfl ?_
    refine E.CG.seq ?_
    refine E.CG.list ?_
    refine E.GL.run rfl rfl rfl (E.Runs.assign rfl rfl) ?_
    refine E.GL.done ?_
    refine E.QG.code ?_
    refine E.CG.ret ?_
    refine E.QG.pass_ret ?_
    have hl : l = [] := C_none hr
    subst hl
    exact E.QG.result rfl rfl ⟨_, rfl, Kd.R_nil _ _ _ _ _, L⟩
  · refine E.GL.run rfl rfl rfl (E.Runs.eqlv rfl rfl rfl rfl (fun _ _ _ => rfl) (eqNil23 _ _ _)) ?_
    refine E.GL.done ?_
    refine E.QG.code ?_
    refine E.CG.cond_f rfl ?_
    refine E.CG.skip ?_
    refine E.QG.code ?_
    refine E.CG.seq ?_
    refine E.CG.list ?_
    refine E.GL.st rfl rfl rfl (E.ST.litAt k45 w.heap.size (w0 := w) (ys := ([] : List S45)) (inner := []) rfl rfl E.epn lit23n (Reps.none _ _) L L.size (by simp) fun u5 w5 r5 k5 l5 n5 => ?_)
    replace L := k5
    refine E.GL.run rfl rfl rfl (E.Runs.move rfl rfl) ?_
    refine E.GL.st rfl rfl rfl (E.ST.appendRows k45 w.heap.size (w0 := w) (s := .tmp 5) (x := .tmp 6) rfl hu23 info45 rfl (by decide) (by decide) rfl rfl r5 (Kd.C_below hr L) made23 L L.size (by simp only [List.length_nil]; omega) fun u7 w7 r7 k7 g7 => ?_)
    replace L := k7
    refine E.GL.run rfl rfl rfl (E.Runs.assign rfl rfl) ?_
    refine E.GL.done ?_
    refine E.QG.code ?_
    refine E.CG.ret ?_
    exact E.QG.result rfl rfl ⟨_, rfl, by simpa using r7, L⟩

end Go.Proofs.Ytmnjlnkfihklgaa.T
namespace Go.Proofs.Ytmnjlnkfihklgaa.T
open Go.RowKit Go.Proofs.YtmnjlnkfihklgaaW.PrintWords Go.Proofs.YtmnjlnkfihklgaaW.PrintMore
open Go.Proofs.Ytmnjlnkfihklgaa.P
set_option linter.unusedVariables false
set_option linter.unusedSimpArgs false

/-- What Shut returns. -/
def ShutR (ps : List Int) (qs : List S45) (m : Int) (ps' : List Int) (qs' : List S45) (E : Int) : Prop :=
  (¬ HOk ps qs → ps' = [] ∧ qs' = [] ∧ E = 110) ∧ (HOk ps qs → ¬ inR m 0 (qs.length - 1) → ps' = [] ∧ qs' = [] ∧ E = 1) ∧ (HOk ps qs → inR m 0 (qs.length - 1) → ps' = ps ∧ qs' = qs.set m.toNat { qs.getD m.toNat P.z45 with f2 := 0 } ∧ E = 0)
theorem slices_one (A B : Option Addr) (n c m d : Nat) : (#[.slice A n c, .slice B m d] : Array Value).all (·.oneCell') = true := by simp [Value.oneCell']
/-- A passage of a row: a write of its width. -/
theorem row45_at {W : World} {base : Nat} {A : Option Addr} {n c : Nat} {xs : List S45} {i : Nat} {x : S45} (R : Kd.R k45 45 W base (fun _ => True) (.slice A n c) xs) (hi : xs[i]? = some x) :
    ∃ g, A = some ⟨g, 0, none⟩ ∧ base ≤ g ∧ W.cell? ⟨g, i * 4 + 2, none⟩ = some (.int .i64 x.f2) ∧ W.frozen? ⟨g, i * 4 + 2, none⟩ = false ∧ (∃ cells, W.heap[g]? = some (.cells cells 45 (0, 0))) ∧
      (∀ y : Int, ∃ w', w' = W.setCell ⟨g, i * 4 + 2, none⟩ (.int .i64 y) ∧ Kd.R k45 45 w' base (fun _ => True) (.slice A n c) (xs.set i { x with f2 := y }) ∧ W.grownBy w' (some g)) := by
  have hil := (List.getElem?_eq_some_iff.1 hi).1
  obtain ⟨g, cap, hv, hb, hl, cells, hc⟩ := Kd.R_form R (by omega)
  have hn := (Kd.R_reads' R).1
  injection hv with hA hn' hc'
  subst hA hc'
  obtain ⟨cs, h1, h2, h3, h4⟩ := Kd.R_elem R x (i : Int) (by omega) (by omega)
  have hx : xs.getD i x = x := by simp [List.getD_eq_getElem?_getD, hi]
  rw [Int.toNat_natCast, hx] at h2
  obtain rfl := k45_open (Kd.K_of_M k45 h2)
  rw [Int.toNat_natCast] at h3 h4
  refine ⟨g, rfl, hb, h3 2 _ rfl, h4 2, ⟨cells, hc⟩, fun y => ⟨_, rfl, ?_⟩⟩
  have := Kd.R_seg R (i : Int) (by omega) (by omega) (seg := [.int .i64 y]) (j := 2) h1 (by rw [Int.toNat_natCast]; exact h3) (by show 2 + 1 ≤ 4; decide) (x' := { x with f2 := y }) (okp := fun _ => False) (k45_mkM _ _ _ { x with f2 := y }) (fun _ hk => hk.elim)
  rw [Int.toNat_natCast] at this
  exact this
set_option maxRecDepth 100000 in
theorem build25z (W : World) : (Instr.build 25 #[]).run Try.prog W = .ok (.agg #[.slice none 0 0, .slice none 0 0]) W := by
  have hu22 := Try.underlying22
  have hu23 := Try.underlying23
  have hu25 := Try.underlying25
  go_simp
set_option maxRecDepth 100000 in
set_option maxHeartbeats 8000000 in

theorem shut_calls (ps : List Int) (qs : List S45) (A B : Option Addr) (c d : Nat) (w : World) (hP : Kd.C kI w A ps.length ps) (hQ : Kd.C k45 w B qs.length qs) (hn1 : ps.length ≤ 1000000) (hn2 : qs.length ≤ 1000000) (m : Int) :
    Calls Try.prog 23 #[hv ps qs A B c d, .int .i64 m] w fun e w' => ∃ ps' qs' A' B' c' d' E, e = .returned (.tuple #[hv ps' qs' A' B' c' d', .int .i64 E]) ∧ Kd.R kI 3 w' w.heap.size (fun _ => True) (.slice A' ps'.length c') ps' ∧ Kd.R k45 45 w' w.heap.size (fun _ => True) (.slice B' qs'.length d') qs' ∧ ShutR ps qs m ps' qs' E ∧ Below w.heap.size w w' := by
  have hu3 := Try.underlying3
  have hu22 := Try.underlying22
  have hu23 := Try.underlying23
  have hu25 := Try.underlying25
  have hu45 := Try.underlying45
  obtain ⟨z3, o3⟩ := info_some info3s (by decide)
  obtain ⟨z22, o22⟩ := info_some info22s (by decide)
  obtain ⟨z23, o23⟩ := info_some info23s (by decide)
  obtain ⟨z25, o25⟩ := info_some info25s (by decide)
  obtain ⟨z45, o45⟩ := info_some info45s (by decide)
  refine E.enter (N := 35) Try.func23 rfl Try.ntmps23 (args := [hv ps qs A B c d, .int .i64 m]) (by simp) ?_
  have L := Below.refl w.heap.size w
  refine E.CG.seq ?_
  refine E.CG.list ?_
  refine E.GL.st rfl rfl rfl (E.ST.box rfl rfl fun g2 w2 e2 b2 l2 => ?_)
  have h2_L : w.heap.size ≤ g2 := by rw [e2]; exact L.size
  replace L := below_step L l2
  refine E.GL.st rfl rfl rfl (E.ST.alloc rfl info25z fun g4 w4 e4 b4 l4 => ?_)
  have h4_L : w.heap.size ≤ g4 := by rw [e4]; exact L.size
  have n4_b2 : g2 ≠ g4 := by have := blk_lt b2; omega
  replace b2 := blk_below b2 l4
  replace L := below_step L l4
  refine E.GL.run rfl rfl rfl (E.Runs.assign rfl rfl) ?_
  refine E.GL.done ?_
  refine E.QG.code ?_
  refine E.CG.seq ?_
  refine E.CG.seq ?_
  refine E.CG.list ?_
  refine E.GL.run rfl rfl rfl (E.Runs.loads (cs := [.slice A ps.length c, .slice B qs.length d]) rfl rfl hu25 rfl info25s (blk_cells b2)) ?_
  refine E.GL.st rfl rfl rfl (E.ST.call rfl ent14 (E.evc rfl E.evn) ((check14 ps qs A B c d _ (Kd.C_below hP L) (Kd.C_below hQ L) hn1 hn2).mono ?_))
  rintro e w8 ⟨rfl, l8⟩
  refine ⟨_, rfl, ?_⟩
  replace b2 := blk_below b2 l8
  replace b4 := blk_below b4 l8
  replace L := below_step L l8
  refine E.GL.run rfl rfl rfl (E.Runs.assign rfl rfl) ?_
  refine E.GL.done ?_
  refine E.QG.code ?_
  refine E.CG.seq ?_
  refine E.CG.list ?_
  refine E.GL.run rfl rfl rfl (E.Runs.move rfl rfl) ?_
  refine E.GL.cmpn rfl rfl rfl (fun _ h => (E.Runs.neq rfl rfl rfl h)) (fun h10 => ?_) (fun h10 => ?_)
  · have hH : ¬ HOk ps qs := fun k => h10 (checkE_yes k)
    refine E.GL.done ?_
    refine E.QG.code ?_
    refine E.CG.cond_t rfl ?_
    refine E.CG.seq ?_
    refine E.CG.list ?_
    refine E.GL.run rfl rfl rfl (E.Runs.build rfl E.epn build25z) ?_
    refine E.GL.run rfl rfl rfl (E.Runs.move rfl rfl) ?_
    refine E.GL.store_whole rfl rfl rfl rfl rfl b4 rfl info25s (slices_one _ _ _ _ _ _) fun wS3_2 c4 lS3_2 => ?_
    replace b2 := blk_grown b2 lS3_2 (E.nes (by first | assumption | exact Ne.symm (by assumption)))
    replace L := E.below_own L h4_L lS3_2
    replace b4 := c4
    clear c4
    refine E.GL.run rfl rfl rfl (E.Runs.assign rfl rfl) ?_
    refine E.GL.done ?_
    refine E.QG.code ?_
    refine E.CG.ret ?_
    refine E.QG.pass_ret ?_
    exact E.QG.result_ct rfl rfl b4 hu25 rfl info25s rfl ⟨[], [], none, none, 0, 0, 110, by rw [checkE_no hH]; rfl, Kd.R_nil _ _ _ _ _, Kd.R_nil _ _ _ _ _, ⟨fun _ => ⟨rfl, rfl, rfl⟩, fun k => absurd k hH, fun k => absurd k hH⟩, L⟩
  · have hH : HOk ps qs := checkE_ok.mp h10
    refine E.GL.done ?_
    refine E.QG.code ?_
    refine E.CG.cond_f rfl ?_
    refine E.CG.skip ?_
    refine E.QG.code ?_
    refine E.CG.seq ?_
    refine E.CG.seq ?_
    refine E.CG.list ?_
    refine E.GL.run rfl rfl rfl (E.Runs.move rfl rfl) ?_
    refine E.GL.run rfl rfl rfl (E.Runs.fieldAddr rfl rfl hu25 rfl (by assumption) rfl) ?_
    refine E.GL.run rfl rfl rfl (E.Runs.load1 rfl rfl hu23 rfl (by first | assumption | exact E.blkc (by assumption) rfl | exact pw_cell_below L (by assumption))) ?_
    refine E.GL.run rfl rfl rfl (E.Runs.len rfl rfl hu23) ?_
    refine E.GL.run rfl rfl rfl (E.Runs.sub rfl rfl rfl (IntWalk.i64_in _ (by omega))) ?_
    by_cases h18 : inR m 0 (qs.length - 1)
    · obtain ⟨i, hmi⟩ : ∃ i : Nat, m = i := ⟨m.toNat, by have := h18.1; omega⟩
      have him : i < qs.length := by have := h18.2; omega
      refine E.GL.st rfl rfl rfl (E.ST.call rfl ent38 (E.evc rfl (E.evc rfl (E.evc rfl E.evn))) ((within_o m 0 (qs.length - 1) true (iff_of_true rfl h18) _).mono ?_))
      rintro e w18 ⟨rfl, l18⟩
      refine ⟨_, rfl, ?_⟩
      replace b2 := blk_below b2 l18
      replace b4 := blk_below b4 l18
      replace L := below_step L l18
      refine E.GL.run rfl rfl rfl (E.Runs.not rfl rfl) ?_
      refine E.GL.done ?_
      refine E.QG.code ?_
      refine E.CG.cond_f rfl ?_
      refine E.CG.skip ?_
      refine E.QG.code ?_
      refine E.CG.seq ?_
      refine E.CG.heldJ 7 (fun v W => v.grownBy W (none)) (fun _ _ => True) (by kernel_rfl) (by kernel_rfl) (fun v => World.grownBy.refl _ _) fun v6 lD => ?_
      replace b2 := blk_below b2 lD
      replace b4 := blk_below b4 lD
      replace L := below_step L lD
      have lD6 := lD
      clear lD
      subst hmi
      have s_b2 := b2
      have s_b4 := b4
      have s_L := L
      have hh : v6.grownBy v6 (none) := World.grownBy.refl _ _
      refine E.GJ.take1 (i := 0) rfl (by kernel_rfl) (by kernel_rfl) (by kernel_rfl) (by kernel_rfl) rfl (by kernel_rfl) (by kernel_rfl) (by intro c a d v w h; cases d <;> exact h) rfl rfl rfl (fun w' hS => (E.Runs.fieldAddr rfl rfl hu25 rfl (by assumption) rfl)) ?_
      refine E.GJ.take1 (i := 1) rfl (by kernel_rfl) (by kernel_rfl) (by kernel_rfl) (by kernel_rfl) rfl (by kernel_rfl) (by kernel_rfl) (by intro c a d v w h; cases d <;> exact h) rfl rfl rfl (fun w' hS => (E.Runs.load1 rfl rfl hu22 rfl (by first | exact E.keeps hS (E.blkc (by assumption) rfl) (by first | exact E.nen | exact E.nes (by assumption) | exact E.nes (Ne.symm (by assumption))) | exact pw_cell_below (below_step s_L (E.belowG hS)) (by assumption)))) ?_
      refine E.GJ.take1 (i := 3) rfl (by kernel_rfl) (by kernel_rfl) (by kernel_rfl) (by kernel_rfl) rfl (by kernel_rfl) (by kernel_rfl) (by intro c a d v w h; cases d <;> exact h) rfl rfl rfl (fun w' hS => (E.Runs.fieldAddr rfl rfl hu25 rfl (by assumption) rfl)) ?_
      refine E.GJ.take1 (i := 4) rfl (by kernel_rfl) (by kernel_rfl) (by kernel_rfl) (by kernel_rfl) rfl (by kernel_rfl) (by kernel_rfl) (by intro c a d v w h; cases d <;> exact h) rfl rfl rfl (fun w' hS => (E.Runs.load1 rfl rfl hu23 rfl (by first | exact E.keeps hS (E.blkc (by assumption) rfl) (by first | exact E.nen | exact E.nes (by assumption) | exact E.nes (Ne.symm (by assumption))) | exact pw_cell_below (below_step s_L (E.belowG hS)) (by assumption)))) ?_
      have hs23 := L.size
      refine E.GJ.one (i := 2) (by kernel_rfl) (E.OJ.st rfl rfl rfl rfl (E.ST.call rfl ent47 (E.evc rfl E.evn) ((clone47 ps A c _ (Kd.C_below hP L) hn1).mono ?_)))
      rintro e w23 ⟨v23, rfl, R23, l23⟩
      refine ⟨_, rfl, (E.SJ.before (by kernel_rfl)).mpr (hh.trans (E.gbB l23)), ?_⟩
      replace hh := hh.trans (E.gbB l23)
      replace b2 := blk_below b2 l23
      replace b4 := blk_below b4 l23
      replace L := below_step L l23
      obtain ⟨A3, c3, hv23⟩ := Kd.R_slice R23
      subst hv23
      replace R23 := Kd.R_lower R23 hs23
      refine E.GJ.take1 (i := 6) rfl (by kernel_rfl) (by kernel_rfl) (by kernel_rfl) (by kernel_rfl) rfl (by kernel_rfl) (by kernel_rfl) (by intro c a d v w h; cases d <;> exact h) rfl rfl rfl (fun w' hS => (E.Runs.fieldAddr rfl rfl hu25 rfl (by assumption) rfl)) ?_
      have hs26 := L.size
      refine E.GJ.one (i := 5) (by kernel_rfl) (E.OJ.st rfl rfl rfl rfl (E.ST.call rfl ent53 (E.evc rfl E.evn) ((clone53 qs B d _ (Kd.C_below hQ L) hn2).mono ?_)))
      rintro e w26 ⟨v26, rfl, R26, l26⟩
      refine ⟨_, rfl, (E.SJ.before (by kernel_rfl)).mpr (hh.trans (E.gbB l26)), ?_⟩
      replace hh := hh.trans (E.gbB l26)
      replace b2 := blk_below b2 l26
      replace b4 := blk_below b4 l26
      replace R23 := Kd.R_below R23 l26
      replace L := below_step L l26
      obtain ⟨B3, d3, hv26⟩ := Kd.R_slice R26
      subst hv26
      replace R26 := Kd.R_lower R26 hs26
      refine E.GJ.one (i := 7) (by kernel_rfl) (E.OJ.sn rfl rfl rfl (E.ST.storeSl (cs := [.slice A ps.length c, .slice B qs.length d]) rfl z22 o22 rfl rfl b2 rfl rfl fun wS7 c2 lS7 => ⟨(E.SJ.behind (by kernel_rfl)).mpr trivial, ?_⟩))
      replace b4 := blk_grown b4 lS7 (E.nes (by first | assumption | exact Ne.symm (by assumption)))
      replace R23 := Kd.R_grown1 R23 rfl lS7 (by first | assumption | exact Kd.R_ne R23 b2 (by decide))
      replace R26 := Kd.R_grown1 R26 rfl lS7 (by first | assumption | exact Kd.R_ne R26 b2 (by decide))
      replace L := E.below_own L h2_L lS7
      replace b2 := c2
      clear c2
      refine E.GJ.one (i := 8) (by kernel_rfl) (E.OJ.st rfl rfl rfl rfl (E.ST.reads (E.Runs.fieldAddr rfl rfl hu25 rfl (by assumption) rfl) ⟨(E.SJ.behind (by kernel_rfl)).mpr trivial, ?_⟩))
      refine E.GJ.one (i := 9) (by kernel_rfl) (E.OJ.sn rfl rfl rfl (E.ST.storeSl (cs := [.slice A3 ps.length c3, .slice B qs.length d]) rfl z23 o23 rfl rfl b2 rfl rfl fun wS9 c2 lS9 => ⟨(E.SJ.behind (by kernel_rfl)).mpr trivial, ?_⟩))
      replace b4 := blk_grown b4 lS9 (E.nes (by first | assumption | exact Ne.symm (by assumption)))
      replace R23 := Kd.R_grown1 R23 rfl lS9 (by first | assumption | exact Kd.R_ne R23 b2 (by decide))
      replace R26 := Kd.R_grown1 R26 rfl lS9 (by first | assumption | exact Kd.R_ne R26 b2 (by decide))
      replace L := E.below_own L h2_L lS9
      replace b2 := c2
      clear c2
      refine E.GJ.done (by kernel_rfl) ?_
      refine E.QG.code ?_
      refine E.CG.seq ?_
      obtain ⟨gK, eK, hgK, cK, fK, ⟨_, bK⟩, stK⟩ := row45_at R26 (getD_some him P.z45)
      refine E.CG.list ?_
      refine E.GL.run rfl rfl rfl (E.Runs.fieldAddr rfl rfl hu25 rfl (by assumption) rfl) ?_
      refine E.GL.run rfl rfl rfl (E.Runs.load1 rfl rfl hu23 rfl (by first | assumption | exact E.blkc (by assumption) rfl | exact pw_cell_below L (by assumption))) ?_
      refine E.GL.run rfl rfl rfl (E.Runs.move rfl rfl) ?_
      refine E.GL.run rfl rfl rfl (E.Runs.indexAddrA rfl rfl rfl hu23 z45 o45 (show (i : Int) < qs.length by omega) eK (show _ = (⟨gK, i * 4, none⟩ : Addr) from by rw [Go.Addr.add_mid, Nat.zero_add])) ?_
      refine E.GL.run rfl rfl rfl (E.Runs.fieldAddr rfl rfl hu45 rfl (by assumption) (show _ = (⟨gK, i * 4 + 2, none⟩ : Addr) from rfl)) ?_
      refine E.GL.sn rfl rfl (E.ST.storeN rfl z3 o3 rfl rfl cK fK ?_)
      obtain ⟨wK, hwK, RK, gK⟩ := stK 0
      rw [← hwK]
      replace b2 := blk_grown b2 gK (E.nes (blk_ne b2 bK (by decide)))
      replace b4 := blk_grown b4 gK (E.nes (blk_ne b4 bK (by decide)))
      replace R23 := over_blk R23 bK (by decide) rfl gK
      replace L := E.below_own L hgK gK
      clear R26
      refine E.GL.done ?_
      refine E.QG.code ?_
      refine E.CG.seq ?_
      refine E.CG.list ?_
      refine E.GL.run rfl rfl rfl (E.Runs.loads (cs := [.slice A3 ps.length c3, .slice B3 qs.length d3]) rfl rfl hu25 rfl info25s (blk_cells b2)) ?_
      refine E.GL.store_whole rfl rfl rfl rfl rfl b4 rfl info25s (slices_one _ _ _ _ _ _) fun wS8_1 c4 lS8_1 => ?_
      replace b2 := blk_grown b2 lS8_1 (E.nes (by first | assumption | exact Ne.symm (by assumption)))
      replace R23 := Kd.R_grown1 R23 rfl lS8_1 (by first | assumption | exact Kd.R_ne R23 b4 (by decide))
      replace RK := Kd.R_grown1 RK rfl lS8_1 (by first | assumption | exact Kd.R_ne RK b4 (by decide))
      replace L := E.below_own L h4_L lS8_1
      replace b4 := c4
      clear c4
      refine E.GL.run rfl rfl rfl (E.Runs.assign rfl rfl) ?_
      refine E.GL.done ?_
      refine E.QG.code ?_
      refine E.CG.ret ?_
      exact E.QG.result_ct rfl rfl b4 hu25 rfl info25s rfl ⟨ps, qs.set i { qs.getD i P.z45 with f2 := 0 }, A3, B3, c3, d3, 0, by unfold hv; rw [List.length_set], R23, by rw [List.length_set]; exact RK, ⟨fun k => absurd hH k, fun _ k => absurd h18 k, fun _ _ => ⟨rfl, rfl, rfl⟩⟩, L⟩
    · refine E.GL.st rfl rfl rfl (E.ST.call rfl ent38 (E.evc rfl (E.evc rfl (E.evc rfl E.evn))) ((within_o m 0 (qs.length - 1) false (iff_of_false Bool.false_ne_true h18) _).mono ?_))
      rintro e w18 ⟨rfl, l18⟩
      refine ⟨_, rfl, ?_⟩
      replace b2 := blk_below b2 l18
      replace b4 := blk_below b4 l18
      replace L := below_step L l18
      refine E.GL.run rfl rfl rfl (E.Runs.not rfl rfl) ?_
      refine E.GL.done ?_
      refine E.QG.code ?_
      refine E.CG.cond_t rfl ?_
      refine E.CG.seq ?_
      refine E.CG.list ?_
      refine E.GL.run rfl rfl rfl (E.Runs.build rfl E.epn build25z) ?_
      refine E.GL.store_whole rfl rfl rfl rfl rfl b4 rfl info25s (slices_one _ _ _ _ _ _) fun wS5_1 c4 lS5_1 => ?_
      replace b2 := blk_grown b2 lS5_1 (E.nes (by first | assumption | exact Ne.symm (by assumption)))
      replace L := E.below_own L h4_L lS5_1
      replace b4 := c4
      clear c4
      refine E.GL.run rfl rfl rfl (E.Runs.assign rfl rfl) ?_
      refine E.GL.done ?_
      refine E.QG.code ?_
      refine E.CG.ret ?_
      refine E.QG.pass_ret ?_
      exact E.QG.result_ct rfl rfl b4 hu25 rfl info25s rfl ⟨[], [], none, none, 0, 0, 1, rfl, Kd.R_nil _ _ _ _ _, Kd.R_nil _ _ _ _ _, ⟨fun k => absurd hH k, fun _ _ => ⟨rfl, rfl, rfl⟩, fun _ k => absurd k h18⟩, L⟩

end Go.Proofs.Ytmnjlnkfihklgaa.T
namespace Go.Proofs.Ytmnjlnkfihklgaa.T
open Go.RowKit Go.Proofs.YtmnjlnkfihklgaaW.PrintWords Go.Proofs.YtmnjlnkfihklgaaW.PrintMore
open Go.Proofs.Ytmnjlnkfihklgaa.P
set_option linter.unusedVariables false
set_option linter.unusedSimpArgs false

/-- The passages of a house of which one is shut. -/
def shutQ (qs : List S45) (i : Nat) : List S45 := qs.set i { qs.getD i P.z45 with f2 := 0 }
theorem shutQ_len (qs : List S45) (i : Nat) : (shutQ qs i).length = qs.length := by unfold shutQ; rw [List.length_set]
theorem shutQ_ok {ps : List Int} {qs : List S45} {i : Nat} (h : HOk ps qs) (hi : i < qs.length) : HOk ps (shutQ qs i) := by
  refine ⟨h.r1, h.r6, by rw [shutQ_len]; exact h.q12, h.p, fun x hx => ?_⟩
  unfold shutQ at hx
  rcases List.mem_or_eq_of_mem_set hx with q | q
  · exact h.q x q
  · have := h.q _ (getD_mem (z := P.z45) hi)
    subst q
    unfold QOk at this ⊢
    simp only
    omega
/-- Without the passage some people are not out. -/
def needP (ps : List Int) (qs : List S45) (T i : Nat) : Prop := ∃ M, IsMost ps (shutQ qs i) T M ∧ M < allP ps
open Classical in
noncomputable def needL (ps : List Int) (qs : List S45) (T : Nat) : Nat → List Int
  | 0 => []
  | i + 1 => needL ps qs T i ++ (if needP ps qs T i then [(i : Int)] else [])
theorem needL_len (ps : List Int) (qs : List S45) (T : Nat) : ∀ i, (needL ps qs T i).length ≤ i
  | 0 => Nat.le_refl _
  | i + 1 => by
    have := needL_len ps qs T i
    rw [needL, List.length_append]
    split <;> simp <;> omega
theorem needL_yes {ps : List Int} {qs : List S45} {T i : Nat} (h : needP ps qs T i) : needL ps qs T (i + 1) = needL ps qs T i ++ [(i : Int)] := by rw [needL, if_pos h]
theorem needL_no {ps : List Int} {qs : List S45} {T i : Nat} (h : ¬ needP ps qs T i) : needL ps qs T (i + 1) = needL ps qs T i := by rw [needL, if_neg h, List.append_nil]
def NeedR (ps : List Int) (qs : List S45) (m : Int) (l : List Int) : Prop := (chkE ps qs m = 0 → l = needL ps qs m.toNat qs.length) ∧ (¬ chkE ps qs m = 0 → l = [])
set_option maxRecDepth 100000 in
set_option maxHeartbeats 8000000 in

theorem needed_calls (ps : List Int) (qs : List S45) (A B : Option Addr) (c d : Nat) (w : World) (hP : Kd.C kI w A ps.length ps) (hQ : Kd.C k45 w B qs.length qs) (hn1 : ps.length ≤ 1000000) (hn2 : qs.length ≤ 1000000) (m : Int) :
    Calls Try.prog 25 #[hv ps qs A B c d, .int .i64 m] w fun e w' => ∃ v l, e = .returned (.tuple #[v, .int .i64 (chkE ps qs m)]) ∧ Kd.R kI 3 w' w.heap.size (fun _ => True) v l ∧ NeedR ps qs m l ∧ Below w.heap.size w w' := by
  have hu3 := Try.underlying3
  have hu22 := Try.underlying22
  have hu23 := Try.underlying23
  have hu25 := Try.underlying25
  have hu76 := Try.underlying76
  obtain ⟨z3, o3⟩ := info_some info3s (by decide)
  obtain ⟨z23, o23⟩ := info_some info23s (by decide)
  obtain ⟨z25, o25⟩ := info_some info25s (by decide)
  refine E.enter (N := 44) Try.func25 rfl Try.ntmps25 (args := [hv ps qs A B c d, .int .i64 m]) (by simp) ?_
  have L := Below.refl w.heap.size w
  refine E.CG.seq ?_
  refine E.CG.list ?_
  refine E.GL.st rfl rfl rfl (E.ST.box rfl rfl fun g2 w2 e2 b2 l2 => ?_)
  have h2_L : w.heap.size ≤ g2 := by rw [e2]; exact L.size
  replace L := below_step L l2
  refine E.GL.run rfl rfl rfl (E.Runs.assign rfl rfl) ?_
  refine E.GL.run rfl rfl rfl (E.Runs.assign rfl rfl) ?_
  refine E.GL.done ?_
  refine E.QG.code ?_
  refine E.CG.seq ?_
  refine E.CG.seq ?_
  refine E.CG.list ?_
  refine E.GL.run rfl rfl rfl (E.Runs.loads (cs := [.slice A ps.length c, .slice B qs.length d]) rfl rfl hu25 rfl info25s (blk_cells b2)) ?_
  refine E.GL.run rfl rfl rfl (E.Runs.move rfl rfl) ?_
  refine E.GL.st rfl rfl rfl (E.ST.call rfl ent45 (E.evc rfl (E.evc rfl E.evn)) ((chk45 ps qs A B c d _ (Kd.C_below hP L) (Kd.C_below hQ L) hn1 hn2 m).mono ?_))
  rintro e w13 ⟨rfl, l13⟩
  refine ⟨_, rfl, ?_⟩
  replace b2 := blk_below b2 l13
  replace L := below_step L l13
  refine E.GL.run rfl rfl rfl (E.Runs.assign rfl rfl) ?_
  refine E.GL.done ?_
  refine E.QG.code ?_
  refine E.CG.seq ?_
  refine E.CG.list ?_
  refine E.GL.run rfl rfl rfl (E.Runs.move rfl rfl) ?_
  refine E.GL.cmpn rfl rfl rfl (fun _ h => (E.Runs.neq rfl rfl rfl h)) (fun h15 => ?_) (fun h15 => ?_)
  · refine E.GL.done ?_
    refine E.QG.code ?_
    refine E.CG.cond_t rfl ?_
    refine E.CG.seq ?_
    refine E.CG.list ?_
    refine E.GL.run rfl rfl rfl (E.Runs.move rfl rfl) ?_
    refine E.GL.run rfl rfl rfl (E.Runs.assign rfl rfl) ?_
    refine E.GL.run rfl rfl rfl (E.Runs.assign rfl rfl) ?_
    refine E.GL.done ?_
    refine E.QG.code ?_
    refine E.CG.ret ?_
    refine E.QG.pass_ret ?_
    exact E.QG.result2 rfl rfl rfl ⟨_, [], rfl, Kd.R_nil _ _ _ _ _, ⟨fun k => absurd k h15, fun _ => rfl⟩, L⟩
  · have hE0 := h15
    obtain ⟨hH, hm0, hm1⟩ := chkE_ok.mp h15
    obtain ⟨T, rfl⟩ : ∃ T : Nat, m = T := ⟨m.toNat, by omega⟩
    have hT : T ≤ 60 := by omega
    have hq12 := hH.q12
    refine E.GL.done ?_
    refine E.QG.code ?_
    refine E.CG.cond_f rfl ?_
    refine E.CG.skip ?_
    refine E.QG.code ?_
    refine E.CG.seq ?_
    refine E.CG.list ?_
    refine E.GL.run rfl rfl rfl (E.Runs.assign rfl rfl) ?_
    refine E.GL.done ?_
    refine E.QG.code ?_
    refine E.CG.seq ?_
    refine E.CG.seq ?_
    refine E.CG.list ?_
    refine E.GL.run rfl rfl rfl (E.Runs.fieldAddr rfl rfl hu25 rfl (by assumption) rfl) ?_
    refine E.GL.run rfl rfl rfl (E.Runs.load1 rfl rfl hu23 rfl (by first | assumption | exact E.blkc (by assumption) rfl | exact pw_cell_below L (by assumption))) ?_
    refine E.GL.run rfl rfl rfl (E.Runs.len rfl rfl hu23) ?_
    refine E.GL.run rfl rfl rfl (E.Runs.move rfl rfl) ?_
    refine E.GL.done ?_
    refine E.QG.code ?_
    refine E.CG.block ?_
    have s6_b2 := b2
    have s6_L := L
    refine E.CG.loop2 (fun (i : Nat) (v7 : Value) => [(1, .int .i64 (T : Int)), (2, .pointer (some ⟨g2, 0, none⟩)), (7, v7), (19, .int .i64 qs.length), (20, .int .i64 i)]) (fun i v7 w' => i ≤ qs.length ∧ w'.heap[g2]? = some (.cells #[.slice A ps.length c, .slice B qs.length d] 25 (0, 0)) ∧ Kd.R kI 3 w' w.heap.size (fun _ => True) v7 (needL ps qs T i) ∧ Below w.heap.size w w') (fun i v7 => qs.length - i) 0 (.slice none 0 0) (E.subc rfl (E.subc rfl (E.subc rfl (E.subc rfl (E.subc rfl E.subn))))) ⟨Nat.zero_le _, b2, Kd.R_nil _ _ _ _ _, L⟩ ?_
    rintro i v7 w6 ⟨hi, b2, R7, L⟩
    refine E.CG.seq ?_
    refine E.CG.list ?_
    refine E.GL.cmp rfl rfl rfl (fun _ h => (E.Runs.lss rfl rfl rfl h)) (fun h21 => ?_) (fun h21 => ?_)
    · have hil : i < qs.length := by omega
      refine E.GL.done ?_
      refine E.QG.code ?_
      refine E.CG.seq ?_
      refine E.CG.cond_t rfl ?_
      refine E.CG.skip ?_
      refine E.QG.code ?_
      refine E.CG.seq ?_
      refine E.CG.block ?_
      refine E.CG.seq ?_
      refine E.CG.list ?_
      refine E.GL.run rfl rfl rfl (E.Runs.move rfl rfl) ?_
      refine E.GL.run rfl rfl rfl (E.Runs.assign rfl rfl) ?_
      refine E.GL.done ?_
      refine E.QG.code ?_
      refine E.CG.seq ?_
      refine E.CG.list ?_
      refine E.GL.run rfl rfl rfl (E.Runs.loads (cs := [.slice A ps.length c, .slice B qs.length d]) rfl rfl hu25 rfl info25s (blk_cells b2)) ?_
      refine E.GL.run rfl rfl rfl (E.Runs.move rfl rfl) ?_
      refine E.GL.st rfl rfl rfl (E.ST.call rfl ent23 (E.evc rfl (E.evc rfl E.evn)) ((shut_calls ps qs A B c d _ (Kd.C_below hP L) (Kd.C_below hQ L) hn1 hn2 (i : Int)).mono ?_))
      rintro e w26 ⟨ps', qs', A', B', c', d', E', rfl, RP, RQ, hSh, l26⟩
      refine ⟨_, rfl, ?_⟩
      replace b2 := blk_below b2 l26
      replace R7 := Kd.R_below R7 l26
      replace L := below_step L l26
      obtain ⟨e1, rfl, rfl⟩ := hSh.2.2 hH ⟨by omega, by omega⟩
      replace e1 := e1.symm
      subst e1
      rw [Int.toNat_natCast] at RQ
      have eQ : qs.set i { qs.getD i P.z45 with f2 := 0 } = shutQ qs i := rfl
      rw [Int.toNat_natCast, eQ]
      rw [eQ] at RQ
      refine E.GL.run rfl rfl rfl (E.Runs.move rfl rfl) ?_
      refine E.GL.run rfl rfl rfl (E.Runs.extract rfl rfl rfl) ?_
      refine E.GL.run rfl rfl rfl (E.Runs.extract rfl rfl rfl) ?_
      refine E.GL.st rfl rfl rfl (E.ST.alloc rfl info25z fun g9 w9 e9 b9 l9 => ?_)
      have h9_L : w.heap.size ≤ g9 := by rw [e9]; exact L.size
      have n9_b2 : g2 ≠ g9 := by have := blk_lt b2; omega
      have n9_R7 : some g9 ≠ (v7).ownBlock := fun h => by have := Kd.R_lt R7 _ h.symm; omega
      have n9_RP : some g9 ≠ ((Value.slice A' ps.length c')).ownBlock := fun h => by have := Kd.R_lt RP _ h.symm; omega
      have n9_RQ : some g9 ≠ ((Value.slice B' (shutQ qs i).length d')).ownBlock := fun h => by have := Kd.R_lt RQ _ h.symm; omega
      replace b2 := blk_below b2 l9
      replace R7 := Kd.R_below R7 l9
      replace RP := Kd.R_below RP l9
      replace RQ := Kd.R_below RQ l9
      replace L := below_step L l9
      refine E.GL.store_whole rfl rfl rfl rfl rfl b9 rfl info25s (slices_one _ _ _ _ _ _) fun wS8_7 c9 lS8_7 => ?_
      replace b2 := blk_grown b2 lS8_7 (E.nes (by first | assumption | exact Ne.symm (by assumption)))
      replace R7 := Kd.R_grown1 R7 rfl lS8_7 (by first | assumption | exact Kd.R_ne R7 b9 (by decide))
      replace RP := Kd.R_grown1 RP rfl lS8_7 (by first | assumption | exact Kd.R_ne RP b9 (by decide))
      replace RQ := Kd.R_grown1 RQ rfl lS8_7 (by first | assumption | exact Kd.R_ne RQ b9 (by decide))
      replace L := E.below_own L h9_L lS8_7
      replace b9 := c9
      clear c9
      refine E.GL.run rfl rfl rfl (E.Runs.assign rfl rfl) ?_
      refine E.GL.done ?_
      refine E.QG.code ?_
      refine E.CG.seq ?_
      refine E.CG.heldH (none) (by kernel_rfl) fun v9 lD hh => ?_
      replace b2 := blk_below b2 lD
      replace b9 := blk_below b9 lD
      replace R7 := Kd.R_below R7 lD
      replace RP := Kd.R_below RP lD
      replace RQ := Kd.R_below RQ lD
      replace L := below_step L lD
      clear lD
      have s_b2 := b2
      have s_b9 := b9
      have s_L := L
      refine E.GH.take (i := 0) rfl (by kernel_rfl) (by kernel_rfl) (by kernel_rfl) (by intro c a d v w h; cases d <;> exact h) rfl rfl rfl (fun w' hS => (E.Runs.loads (cs := [.slice A' ps.length c', .slice B' (shutQ qs i).length d']) rfl rfl hu25 rfl info25s (blk_cells (blk_grown s_b9 hS E.nen)))) ?_
      refine E.GH.take (i := 1) rfl (by kernel_rfl) (by kernel_rfl) (by kernel_rfl) (by intro c a d v w h; cases d <;> exact h) rfl rfl rfl (fun w' hS => (E.Runs.move rfl rfl)) ?_
      refine E.GH.take (i := 6) rfl (by kernel_rfl) (by kernel_rfl) (by kernel_rfl) (by intro c a d v w h; cases d <;> exact h) rfl rfl rfl (fun w' hS => (E.Runs.loads (cs := [.slice A ps.length c, .slice B qs.length d]) rfl rfl hu25 rfl info25s (blk_cells (blk_grown s_b2 hS E.nen)))) ?_
      refine E.GH.one (i := 2) (by kernel_rfl) rfl ?_
      refine E.GO.st rfl rfl rfl (E.ST.call rfl ent51 (E.evc rfl (E.evc rfl E.evn)) ((flow_calls ps (shutQ qs i) T A' B' c' d' _ (shutQ_ok hH hil) hT (Kd.R_reads' RP).2.2 (Kd.R_reads' RQ).2.2).mono ?_))
      rintro e w31 ⟨gN, gE, out, f, rfl, hN, hM, l31⟩
      refine ⟨_, rfl, hh.trans (E.gbB l31), ?_⟩
      replace hh := hh.trans (E.gbB l31)
      replace b2 := blk_below b2 l31
      replace b9 := blk_below b9 l31
      replace R7 := Kd.R_below R7 l31
      replace RP := Kd.R_below RP l31
      replace RQ := Kd.R_below RQ l31
      replace L := below_step L l31
      have hN0 := hN
      refine E.GH.take (i := 3) rfl (by kernel_rfl) (by kernel_rfl) (by kernel_rfl) (by intro c a d v w h; cases d <;> exact h) rfl rfl rfl (fun w' hS => (E.Runs.nilCheck rfl rfl)) ?_
      refine E.GH.take (i := 4) rfl (by kernel_rfl) (by kernel_rfl) (by kernel_rfl) (by intro c a d v w h; cases d <;> exact h) rfl rfl rfl (fun w' hS => (E.Runs.fieldAddr rfl rfl hu76 rfl (by assumption) rfl)) ?_
      refine E.GH.all (rs := [5, 7]) (by kernel_rfl) (by simp) (E.GHs.cons rfl ?_ (E.GHs.cons rfl ?_ E.GHs.nil))
      · refine E.GO.st rfl rfl rfl (E.ST.reads (E.Runs.load rfl rfl hu3 (E.blkc hN.blk rfl)) ⟨hh, ?_⟩)
        refine E.GH.one (i := 7) (by kernel_rfl) rfl ?_
        refine E.GO.st rfl rfl rfl (E.ST.call rfl ent50 (E.evc rfl E.evn) ((souls_calls ps qs A B c d _ (Kd.C_below hP L) hH.p (by have := hH.r6; omega)).mono ?_))
        rintro e w36 ⟨rfl, l36⟩
        refine ⟨_, rfl, hh.trans (E.gbB l36), ?_⟩
        replace hh := hh.trans (E.gbB l36)
        replace b2 := blk_below b2 l36
        replace b9 := blk_below b9 l36
        replace R7 := Kd.R_below R7 l36
        replace RP := Kd.R_below RP l36
        replace RQ := Kd.R_below RQ l36
        replace L := below_step L l36
        replace hN := hN.below l36
        refine E.GH.cmp (i := 8) rfl (by kernel_rfl) (by kernel_rfl) (by kernel_rfl) (by intro c a d v w h; cases d <;> exact h) rfl rfl rfl (fun _ h w' hS => (E.Runs.lss rfl rfl rfl h)) (fun h37 => ?_) (fun h37 => ?_)
        · have hnp : needP ps qs T i := ⟨out, hM.most (shutQ_ok hH hil), h37⟩
          refine E.GH.done (by kernel_rfl) ?_
          refine E.QG.code ?_
          refine E.CG.cond_t rfl ?_
          refine E.CG.list ?_
          refine E.GL.run rfl rfl rfl (E.Runs.move rfl rfl) ?_
          refine E.GL.run rfl rfl rfl (E.Runs.move rfl rfl) ?_
          refine E.GL.st rfl rfl rfl (E.ST.lit rfl (E.epc rfl E.epn) (lit22 (i : Int)) ?_)
          refine E.GL.st rfl rfl rfl (E.ST.append kI w.heap.size (w0 := w) (s := .tmp 38) (x := .tmp 40) rfl hu22 info3 rfl (by decide) (by decide) (i : Int) rfl rfl rfl (fun _ _ => trivial) R7 L L.size (by have := needL_len ps qs T i; omega) fun u41 w41 r41 k41 gr41 => ?_)
          replace b2 := blk_grown b2 gr41 (Kd.R_ne R7 b2 (by decide))
          replace L := k41
          clear R7 k41 gr41
          refine E.GL.run rfl rfl rfl (E.Runs.assign rfl rfl) ?_
          refine E.GL.done ?_
          refine E.QG.block_normal ?_
          refine E.QG.code ?_
          refine E.CG.list ?_
          refine E.GL.run rfl rfl rfl (E.Runs.add rfl rfl rfl (IntWalk.i64_in _ (by omega))) ?_
          refine E.GL.run rfl rfl rfl (E.Runs.move rfl rfl) ?_
          refine E.GL.done ?_
          exact E.QG.round2 (d := .slice none 0 0) (i + 1) _ (E.subc rfl (E.subc rfl (E.subc rfl (E.subc rfl (E.subc rfl E.subn))))) (by first | exact ⟨by omega, b2, by rw [needL_yes hnp]; exact r41, L⟩ | exact ⟨by omega, b2, by rw [needL_no hnp]; exact R7, L⟩ | fail) (by omega)
        · have hnp : ¬ needP ps qs T i := fun ⟨M, k1, k2⟩ => by have := IsMost.one (shutQ_ok hH hil) k1 (hM.most (shutQ_ok hH hil)); omega
          refine E.GH.done (by kernel_rfl) ?_
          refine E.QG.code ?_
          refine E.CG.cond_f rfl ?_
          refine E.CG.skip ?_
          refine E.QG.block_normal ?_
          refine E.QG.code ?_
          refine E.CG.list ?_
          refine E.GL.run rfl rfl rfl (E.Runs.add rfl rfl rfl (IntWalk.i64_in _ (by omega))) ?_
          refine E.GL.run rfl rfl rfl (E.Runs.move rfl rfl) ?_
          refine E.GL.done ?_
          exact E.QG.round2 (d := .slice none 0 0) (i + 1) _ (E.subc rfl (E.subc rfl (E.subc rfl (E.subc rfl (E.subc rfl E.subn))))) (by first | exact ⟨by omega, b2, by rw [needL_yes hnp]; exact r41, L⟩ | exact ⟨by omega, b2, by rw [needL_no hnp]; exact R7, L⟩ | fail) (by omega)
      · refine E.GO.st rfl rfl rfl (E.ST.call rfl ent50 (E.evc rfl E.evn) ((souls_calls ps qs A B c d _ (Kd.C_below hP L) hH.p (by have := hH.r6; omega)).mono ?_))
        rintro e w36 ⟨rfl, l36⟩
        refine ⟨_, rfl, hh.trans (E.gbB l36), ?_⟩
        replace hh := hh.trans (E.gbB l36)
        replace b2 := blk_below b2 l36
        replace b9 := blk_below b9 l36
        replace R7 := Kd.R_below R7 l36
        replace RP := Kd.R_below RP l36
        replace RQ := Kd.R_below RQ l36
        replace L := below_step L l36
        replace hN := hN.below l36
        refine E.GH.one (i := 5) (by kernel_rfl) rfl ?_
        refine E.GO.st rfl rfl rfl (E.ST.reads (E.Runs.load rfl rfl hu3 (E.blkc hN.blk rfl)) ⟨hh, ?_⟩)
        refine E.GH.cmp (i := 8) rfl (by kernel_rfl) (by kernel_rfl) (by kernel_rfl) (by intro c a d v w h; cases d <;> exact h) rfl rfl rfl (fun _ h w' hS => (E.Runs.lss rfl rfl rfl h)) (fun h37 => ?_) (fun h37 => ?_)
        · have hnp : needP ps qs T i := ⟨out, hM.most (shutQ_ok hH hil), h37⟩
          refine E.GH.done (by kernel_rfl) ?_
          refine E.QG.code ?_
          refine E.CG.cond_t rfl ?_
          refine E.CG.list ?_
          refine E.GL.run rfl rfl rfl (E.Runs.move rfl rfl) ?_
          refine E.GL.run rfl rfl rfl (E.Runs.move rfl rfl) ?_
          refine E.GL.st rfl rfl rfl (E.ST.lit rfl (E.epc rfl E.epn) (lit22 (i : Int)) ?_)
          refine E.GL.st rfl rfl rfl (E.ST.append kI w.heap.size (w0 := w) (s := .tmp 38) (x := .tmp 40) rfl hu22 info3 rfl (by decide) (by decide) (i : Int) rfl rfl rfl (fun _ _ => trivial) R7 L L.size (by have := needL_len ps qs T i; omega) fun u41 w41 r41 k41 gr41 => ?_)
          replace b2 := blk_grown b2 gr41 (Kd.R_ne R7 b2 (by decide))
          replace L := k41
          clear R7 k41 gr41
          refine E.GL.run rfl rfl rfl (E.Runs.assign rfl rfl) ?_
          refine E.GL.done ?_
          refine E.QG.block_normal ?_
          refine E.QG.code ?_
          refine E.CG.list ?_
          refine E.GL.run rfl rfl rfl (E.Runs.add rfl rfl rfl (IntWalk.i64_in _ (by omega))) ?_
          refine E.GL.run rfl rfl rfl (E.Runs.move rfl rfl) ?_
          refine E.GL.done ?_
          exact E.QG.round2 (d := .slice none 0 0) (i + 1) _ (E.subc rfl (E.subc rfl (E.subc rfl (E.subc rfl (E.subc rfl E.subn))))) (by first | exact ⟨by omega, b2, by rw [needL_yes hnp]; exact r41, L⟩ | exact ⟨by omega, b2, by rw [needL_no hnp]; exact R7, L⟩ | fail) (by omega)
        · have hnp : ¬ needP ps qs T i := fun ⟨M, k1, k2⟩ => by have := IsMost.one (shutQ_ok hH hil) k1 (hM.most (shutQ_ok hH hil)); omega
          refine E.GH.done (by kernel_rfl) ?_
          refine E.QG.code ?_
          refine E.CG.cond_f rfl ?_
          refine E.CG.skip ?_
          refine E.QG.block_normal ?_
          refine E.QG.code ?_
          refine E.CG.list ?_
          refine E.GL.run rfl rfl rfl (E.Runs.add rfl rfl rfl (IntWalk.i64_in _ (by omega))) ?_
          refine E.GL.run rfl rfl rfl (E.Runs.move rfl rfl) ?_
          refine E.GL.done ?_
          exact E.QG.round2 (d := .slice none 0 0) (i + 1) _ (E.subc rfl (E.subc rfl (E.subc rfl (E.subc rfl (E.subc rfl E.subn))))) (by first | exact ⟨by omega, b2, by rw [needL_yes hnp]; exact r41, L⟩ | exact ⟨by omega, b2, by rw [needL_no hnp]; exact R7, L⟩ | fail) (by omega)
    · have hil : i = qs.length := by omega
      refine E.GL.done ?_
      refine E.QG.code ?_
      refine E.CG.seq ?_
      refine E.CG.cond_f rfl ?_
      refine E.CG.exit ?_
      refine E.QG.pass_exit ?_
      refine E.QG.pass_exit ?_
      refine E.QG.block_here ?_
      refine E.QG.code ?_
      refine E.CG.seq ?_
      refine E.CG.list ?_
      refine E.GL.run rfl rfl rfl (E.Runs.move rfl rfl) ?_
      refine E.GL.run rfl rfl rfl (E.Runs.assign rfl rfl) ?_
      refine E.GL.run rfl rfl rfl (E.Runs.assign rfl rfl) ?_
      refine E.GL.done ?_
      refine E.QG.code ?_
      refine E.CG.ret ?_
      exact E.QG.result2 rfl rfl rfl ⟨_, _, by rw [hE0], R7, ⟨fun _ => by rw [hil]; rfl, fun k => absurd hE0 k⟩, L⟩

end Go.Proofs.Ytmnjlnkfihklgaa.T
namespace Go.Proofs.Ytmnjlnkfihklgaa.T
open Go.RowKit Go.Proofs.YtmnjlnkfihklgaaW.PrintWords Go.Proofs.YtmnjlnkfihklgaaW.PrintMore
open Go.Proofs.Ytmnjlnkfihklgaa.P
set_option linter.unusedVariables false
set_option linter.unusedSimpArgs false

def HrsOk (R : Nat) (m : Int) (hs : List Int) : Prop := (∀ x ∈ hs, inR x 0 (m + 1)) ∧ hs.length = R
instance (R : Nat) (m : Int) (hs : List Int) : Decidable (HrsOk R m hs) := by unfold HrsOk; infer_instance
set_option maxRecDepth 100000 in
set_option maxHeartbeats 8000000 in

theorem areHours_calls (ps : List Int) (qs : List S45) (A B C : Option Addr) (c d k : Nat) (m : Int) (hs : List Int) (r : Bool) (hb : r = true ↔ HrsOk ps.length m hs) (w : World) (hH : Kd.C kI w C hs.length hs) (hn : hs.length ≤ 1000000) (hm : 0 ≤ m ∧ m ≤ 60) :
    Calls Try.prog 35 #[hv ps qs A B c d, .int .i64 m, .slice C hs.length k] w fun e w' => e = .returned (.bool r) ∧ Below w.heap.size w w' := by
  have hu3 := Try.underlying3
  have hu22 := Try.underlying22
  have hu25 := Try.underlying25
  obtain ⟨z3, o3⟩ := info_some info3s (by decide)
  obtain ⟨z22, o22⟩ := info_some info22s (by decide)
  refine E.enter (N := 28) Try.func35 rfl Try.ntmps35 (args := [hv ps qs A B c d, .int .i64 m, .slice C hs.length k]) (by simp) ?_
  have L := Below.refl w.heap.size w
  refine E.CG.seq ?_
  refine E.CG.list ?_
  refine E.GL.st rfl rfl rfl (E.ST.box rfl rfl fun g3 w3 e3 b3 l3 => ?_)
  have h3_L : w.heap.size ≤ g3 := by rw [e3]; exact L.size
  replace L := below_step L l3
  refine E.GL.run rfl rfl rfl (E.Runs.assign rfl rfl) ?_
  refine E.GL.done ?_
  refine E.QG.code ?_
  refine E.CG.seq ?_
  refine E.CG.seq ?_
  refine E.CG.list ?_
  refine E.GL.run rfl rfl rfl (E.Runs.assign rfl rfl) ?_
  refine E.GL.done ?_
  refine E.QG.code ?_
  refine E.CG.block ?_
  have s2_b3 := b3
  have s2_L := L
  refine E.CG.loop (fun (i : Nat) => [(1, .int .i64 m), (2, .slice C hs.length k), (3, .pointer (some ⟨g3, 0, none⟩)), (7, .int .i64 i)]) (fun i w' => i ≤ hs.length ∧ w'.heap[g3]? = some (.cells #[.slice A ps.length c, .slice B qs.length d] 25 (0, 0)) ∧ Below w.heap.size w w' ∧ ∀ k, k < i → ∀ x, hs[k]? = some x → inR x 0 (m + 1)) (fun i => hs.length - i) 0 (E.subc rfl (E.subc rfl (E.subc rfl (E.subc rfl E.subn)))) ⟨Nat.zero_le _, b3, L, fun k hk => by omega⟩ ?_
  rintro i w2 ⟨hi, b3, L, hok⟩
  refine E.CG.seq ?_
  refine E.CG.seq ?_
  refine E.CG.list ?_
  refine E.GL.run rfl rfl rfl (E.Runs.move rfl rfl) ?_
  refine E.GL.run rfl rfl rfl (E.Runs.move rfl rfl) ?_
  refine E.GL.run rfl rfl rfl (E.Runs.len rfl rfl hu22) ?_
  refine E.GL.cmp rfl rfl rfl (fun _ h => (E.Runs.lss rfl rfl rfl h)) (fun h11 => ?_) (fun h11 => ?_)
  · obtain ⟨x, hx⟩ : ∃ x, hs[i]? = some x := ⟨_, List.getElem?_eq_getElem (by omega)⟩
    obtain ⟨ad, eA, X⟩ := int_at hH hx
    refine E.GL.done ?_
    refine E.QG.code ?_
    refine E.CG.cond_t rfl ?_
    refine E.CG.skip ?_
    refine E.QG.code ?_
    refine E.CG.seq ?_
    refine E.CG.block ?_
    refine E.CG.seq ?_
    refine E.CG.list ?_
    refine E.GL.run rfl rfl rfl (E.Runs.move rfl rfl) ?_
    refine E.GL.run rfl rfl rfl (E.Runs.move rfl rfl) ?_
    refine E.GL.run rfl rfl rfl (E.Runs.indexAddrA rfl rfl rfl hu22 z3 o3 (show (i : Int) < hs.length by omega) eA rfl) ?_
    refine E.GL.run rfl rfl rfl (E.Runs.load rfl rfl hu3 (pw_cell_below L X)) ?_
    refine E.GL.run rfl rfl rfl (E.Runs.move rfl rfl) ?_
    refine E.GL.run rfl rfl rfl (E.Runs.add rfl rfl rfl (IntWalk.i64_in _ (by omega))) ?_
    by_cases h20 : inR x 0 (m + 1)
    · refine E.GL.st rfl rfl rfl (E.ST.call rfl ent44 (E.evc rfl (E.evc rfl (E.evc rfl E.evn))) ((within_r x 0 (m + 1) true (iff_of_true rfl h20) _).mono ?_))
      rintro e w20 ⟨rfl, l20⟩
      refine ⟨_, rfl, ?_⟩
      replace b3 := blk_below b3 l20
      replace L := below_step L l20
      refine E.GL.run rfl rfl rfl (E.Runs.not rfl rfl) ?_
      refine E.GL.done ?_
      refine E.QG.code ?_
      refine E.CG.cond_f rfl ?_
      refine E.CG.skip ?_
      refine E.QG.block_normal ?_
      refine E.QG.code ?_
      refine E.CG.list ?_
      refine E.GL.run rfl rfl rfl (E.Runs.move rfl rfl) ?_
      refine E.GL.run rfl rfl rfl (E.Runs.add rfl rfl rfl (IntWalk.i64_in _ (by omega))) ?_
      refine E.GL.run rfl rfl rfl (E.Runs.assign rfl rfl) ?_
      refine E.GL.done ?_
      exact E.QG.round (i + 1) (E.subc rfl (E.subc rfl (E.subc rfl (E.subc rfl E.subn)))) ⟨by omega, b3, L, all_more hok hx h20⟩ (by omega)
    · refine E.GL.st rfl rfl rfl (E.ST.call rfl ent44 (E.evc rfl (E.evc rfl (E.evc rfl E.evn))) ((within_r x 0 (m + 1) false (iff_of_false Bool.false_ne_true h20) _).mono ?_))
      rintro e w20 ⟨rfl, l20⟩
      refine ⟨_, rfl, ?_⟩
      replace b3 := blk_below b3 l20
      replace L := below_step L l20
      refine E.GL.run rfl rfl rfl (E.Runs.not rfl rfl) ?_
      refine E.GL.done ?_
      refine E.QG.code ?_
      refine E.CG.cond_t rfl ?_
      refine E.CG.seq ?_
      refine E.CG.list ?_
      refine E.GL.run rfl rfl rfl (E.Runs.assign rfl rfl) ?_
      refine E.GL.done ?_
      refine E.QG.code ?_
      refine E.CG.ret ?_
      refine E.QG.block_ret ?_
      refine E.QG.pass_ret ?_
      refine E.QG.pass_ret ?_
      refine E.QG.block_ret ?_
      refine E.QG.pass_ret ?_
      exact E.QG.result rfl rfl ⟨by rw [bool_no hb (fun k => h20 (k.1 x (List.mem_of_getElem? hx)))], L⟩
  · refine E.GL.done ?_
    refine E.QG.code ?_
    refine E.CG.cond_f rfl ?_
    refine E.CG.exit ?_
    refine E.QG.pass_exit ?_
    refine E.QG.pass_exit ?_
    refine E.QG.block_here ?_
    refine E.QG.code ?_
    refine E.CG.seq ?_
    refine E.CG.list ?_
    refine E.GL.run rfl rfl rfl (E.Runs.move rfl rfl) ?_
    refine E.GL.run rfl rfl rfl (E.Runs.len rfl rfl hu22) ?_
    refine E.GL.run rfl rfl rfl (E.Runs.fieldAddr rfl rfl hu25 rfl (by assumption) rfl) ?_
    refine E.GL.run rfl rfl rfl (E.Runs.load1 rfl rfl hu22 rfl (by first | assumption | exact E.blkc (by assumption) rfl | exact pw_cell_below L (by assumption))) ?_
    refine E.GL.run rfl rfl rfl (E.Runs.len rfl rfl hu22) ?_
    refine E.GL.cmp rfl rfl rfl (fun _ h => (E.Runs.eql rfl rfl rfl h)) (fun h27 => ?_) (fun h27 => ?_)
    · refine E.GL.run rfl rfl rfl (E.Runs.assign rfl rfl) ?_
      refine E.GL.done ?_
      refine E.QG.code ?_
      refine E.CG.ret ?_
      exact E.QG.result rfl rfl ⟨by rw [hb.mpr ⟨all_done hok (by omega), by omega⟩], L⟩
    · refine E.GL.run rfl rfl rfl (E.Runs.assign rfl rfl) ?_
      refine E.GL.done ?_
      refine E.QG.code ?_
      refine E.CG.ret ?_
      exact E.QG.result rfl rfl ⟨by rw [bool_no hb (fun k => by have := k.2; omega)], L⟩

end Go.Proofs.Ytmnjlnkfihklgaa.T
namespace Go.Proofs.Ytmnjlnkfihklgaa.T
open Go.RowKit Go.Proofs.YtmnjlnkfihklgaaW.PrintWords Go.Proofs.YtmnjlnkfihklgaaW.PrintMore
open Go.Proofs.Ytmnjlnkfihklgaa.P
set_option linter.unusedVariables false
set_option linter.unusedSimpArgs false

/-- A sum over moves. -/
def sumM (h : S35 → Int) : List S35 → Int
  | [] => 0
  | x :: l => h x + sumM h l
theorem sumM_append (h : S35 → Int) : ∀ l k : List S35, sumM h (l ++ k) = sumM h l + sumM h k
  | [], k => by simp [sumM]
  | x :: l, k => by simp only [List.cons_append, sumM, sumM_append h l k]; omega
theorem sumM_step {h : S35 → Int} {l : List S35} {i : Nat} {x : S35} (hx : l[i]? = some x) : sumM h (l.take (i + 1)) = sumM h (l.take i) + h x := by
  rw [List.take_add_one, hx, sumM_append]
  simp [sumM]
theorem sumM_b {h : S35 → Int} {b : Int} : ∀ {l : List S35}, (∀ x ∈ l, 0 ≤ h x ∧ h x ≤ b) → 0 ≤ sumM h l ∧ sumM h l ≤ b * l.length
  | [], _ => by simp [sumM]
  | x :: l, H => by
    have h1 := sumM_b (l := l) (fun y hy => H y (List.mem_cons_of_mem _ hy))
    have h2 := H x List.mem_cons_self
    have h3 : b * ((x :: l).length : Nat) = b * l.length + b := by rw [List.length_cons]; push_cast; rw [Int.mul_add, Int.mul_one]
    rw [h3]
    simp only [sumM]
    omega
/-- Moves whose passage there is. -/
def MvIn (qs : List S45) (l : List S35) : Prop := ∀ x ∈ l, 0 ≤ x.f1 ∧ x.f1 < qs.length ∧ 1 ≤ x.f2 ∧ x.f2 ≤ 20
def outF (qs : List S45) (x : S35) : Int := if (qs.getD x.f1.toNat P.z45).f1 = -1 then x.f2 else 0
def outM (qs : List S45) (l : List S35) : Int := sumM (outF qs) l
theorem outM_b {qs : List S45} {l : List S35} (h : MvIn qs l) : 0 ≤ outM qs l ∧ outM qs l ≤ 20 * l.length := sumM_b fun x hx => by
  have := h x hx
  unfold outF
  split <;> omega
theorem move_at {w : World} {A : Option Addr} {n : Nat} {l : List S35} (h : Kd.C k35 w A n l) {i : Nat} {x : S35} (hi : l[i]? = some x) : ∃ ad, A = some ad ∧ ∀ j u, ([.int .i64 x.f0, .int .i64 x.f1, .int .i64 x.f2] : List Value)[j]? = some u → w.cell? ((ad.add (i * 3)).add j) = some u := by
  have hil : i < l.length := (List.getElem?_eq_some_iff.1 hi).1
  have hn := Kd.C_len h
  obtain ⟨ad, c, e, _, hK, hc0⟩ := Kd.C_get h x (i : Int) (by omega) (by omega)
  have hx : l.getD i x = x := by simp [List.getD_eq_getElem?_getD, hi]
  rw [Int.toNat_natCast, hx] at hK
  rw [Int.toNat_natCast] at hc0
  obtain rfl := k35_open hK
  refine ⟨ad, e, fun j u hu => ?_⟩
  have := hc0 j u hu
  rw [← this]
  congr 1
  exact add_add _ _ _
set_option maxRecDepth 100000 in
set_option maxHeartbeats 8000000 in

theorem gone_calls (ps : List Int) (qs : List S45) (A B C : Option Addr) (c d k : Nat) (l : List S35) (w : World) (hQ : Kd.C k45 w B qs.length qs) (hM : Kd.C k35 w C l.length l) (hn : l.length ≤ 1000000) (hl : MvIn qs l) :
    Calls Try.prog 34 #[hv ps qs A B c d, .slice C l.length k] w fun e w' => e = .returned (.int .i64 (outM qs l)) ∧ Below w.heap.size w w' := by
  have hu3 := Try.underlying3
  have hu23 := Try.underlying23
  have hu25 := Try.underlying25
  have hu26 := Try.underlying26
  have hu35 := Try.underlying35
  have hu45 := Try.underlying45
  obtain ⟨z3, o3⟩ := info_some info3s (by decide)
  obtain ⟨z23, o23⟩ := info_some info23s (by decide)
  obtain ⟨z35, o35⟩ := info_some info35s (by decide)
  obtain ⟨z45, o45⟩ := info_some info45s (by decide)
  refine E.enter (N := 32) Try.func34 rfl Try.ntmps34 (args := [hv ps qs A B c d, .slice C l.length k]) (by simp) ?_
  have L := Below.refl w.heap.size w
  refine E.CG.seq ?_
  refine E.CG.list ?_
  refine E.GL.st rfl rfl rfl (E.ST.box rfl rfl fun g2 w2 e2 b2 l2 => ?_)
  have h2_L : w.heap.size ≤ g2 := by rw [e2]; exact L.size
  replace L := below_step L l2
  refine E.GL.run rfl rfl rfl (E.Runs.assign rfl rfl) ?_
  refine E.GL.done ?_
  refine E.QG.code ?_
  refine E.CG.seq ?_
  refine E.CG.list ?_
  refine E.GL.run rfl rfl rfl (E.Runs.assign rfl rfl) ?_
  refine E.GL.done ?_
  refine E.QG.code ?_
  refine E.CG.seq ?_
  refine E.CG.seq ?_
  refine E.CG.list ?_
  refine E.GL.run rfl rfl rfl (E.Runs.assign rfl rfl) ?_
  refine E.GL.done ?_
  refine E.QG.code ?_
  refine E.CG.block ?_
  have s3_b2 := b2
  have s3_L := L
  refine E.CG.loop (fun (i : Nat) => [(1, .slice C l.length k), (2, .pointer (some ⟨g2, 0, none⟩)), (5, .int .i64 (outM qs (l.take i))), (6, .int .i64 i)]) (fun i w' => i ≤ l.length ∧ w'.heap[g2]? = some (.cells #[.slice A ps.length c, .slice B qs.length d] 25 (0, 0)) ∧ Below w.heap.size w w') (fun i => l.length - i) 0 (E.subc rfl (E.subc rfl (E.subc rfl (E.subc rfl E.subn)))) ⟨Nat.zero_le _, b2, L⟩ ?_
  rintro i w3 ⟨hi, b2, L⟩
  refine E.CG.seq ?_
  refine E.CG.seq ?_
  refine E.CG.list ?_
  refine E.GL.run rfl rfl rfl (E.Runs.move rfl rfl) ?_
  refine E.GL.run rfl rfl rfl (E.Runs.move rfl rfl) ?_
  refine E.GL.run rfl rfl rfl (E.Runs.len rfl rfl hu26) ?_
  refine E.GL.cmp rfl rfl rfl (fun _ h => (E.Runs.lss rfl rfl rfl h)) (fun h10 => ?_) (fun h10 => ?_)
  · obtain ⟨x, hx⟩ : ∃ x, l[i]? = some x := ⟨_, List.getElem?_eq_getElem (by omega)⟩
    obtain ⟨h0, h1, h2, h3⟩ := hl x (List.mem_of_getElem? hx)
    obtain ⟨ad, eA, X⟩ := move_at hM hx
    obtain ⟨x0, x1, x2⟩ := x
    obtain ⟨u, rfl⟩ : ∃ u : Nat, x1 = u := ⟨x1.toNat, by simp only at h0; omega⟩
    simp only at h0 h1 h2 h3
    have hul : u < qs.length := by omega
    obtain ⟨aQ, eQ, cQ⟩ := pass_at hQ (getD_some hul P.z45)
    have hb := outM_b (l := l.take i) (fun y hy => hl y (List.mem_of_mem_take hy))
    have hst := sumM_step (h := outF qs) hx
    have hlt : (l.take i).length ≤ l.length := by rw [List.length_take]; omega
    refine E.GL.done ?_
    refine E.QG.code ?_
    refine E.CG.cond_t rfl ?_
    refine E.CG.skip ?_
    refine E.QG.code ?_
    refine E.CG.seq ?_
    refine E.CG.block ?_
    refine E.CG.seq ?_
    refine E.CG.quietF (by kernel_rfl) rfl (by kernel_rfl) (by kernel_rfl) ?_
    refine E.GQ.run rfl rfl rfl (E.Runs.fieldAddr rfl rfl hu25 rfl (by assumption) rfl) ?_
    refine E.GQ.run rfl rfl rfl (E.Runs.load1 rfl rfl hu23 rfl (by first | assumption | exact E.blkc (by assumption) rfl | exact pw_cell_below L (by assumption))) ?_
    refine E.GQ.run rfl rfl rfl (E.Runs.move rfl rfl) ?_
    refine E.GQ.run rfl rfl rfl (E.Runs.move rfl rfl) ?_
    refine E.GQ.run rfl rfl rfl (E.Runs.indexAddrA rfl rfl rfl hu26 z35 o35 (show (i : Int) < l.length by omega) eA rfl) ?_
    refine E.GQ.run rfl rfl rfl (E.Runs.fieldAddr rfl rfl hu35 rfl (by assumption) rfl) ?_
    refine E.GQ.run rfl rfl rfl (E.Runs.load (v := .int .i64 (u : Int)) rfl rfl hu3 (by rw [← E.add_onA]; exact pw_cell_below L (X 1 _ rfl))) ?_
    refine E.GQ.run rfl rfl rfl (E.Runs.indexAddrA rfl rfl rfl hu23 z45 o45 (show (u : Int) < qs.length by omega) eQ rfl) ?_
    refine E.GQ.run rfl rfl rfl (E.Runs.fieldAddr rfl rfl hu45 rfl (by assumption) rfl) ?_
    refine E.GQ.run rfl rfl rfl (E.Runs.load rfl rfl hu3 (by rw [← E.add_onA]; exact pw_cell_below L (cQ 1 _ rfl))) ?_
    refine E.GQ.cmp rfl rfl rfl (fun _ h => (E.Runs.eql rfl rfl rfl h)) (fun h23 => ?_) (fun h23 => ?_)
    · have hof : outF qs ⟨x0, (u : Int), x2⟩ = x2 := by unfold outF; rw [Int.toNat_natCast, if_pos h23]
      refine E.GQ.doneB fun v5 lD => ?_
      replace b2 := blk_below b2 lD
      replace L := below_step L lD
      have lD5 := lD
      clear lD
      refine E.QG.code ?_
      refine E.CG.cond_t rfl ?_
      refine E.CG.list ?_
      refine E.GL.run rfl rfl rfl (E.Runs.move rfl rfl) ?_
      refine E.GL.run rfl rfl rfl (E.Runs.move rfl rfl) ?_
      refine E.GL.run rfl rfl rfl (E.Runs.move rfl rfl) ?_
      refine E.GL.run rfl rfl rfl (E.Runs.indexAddrA rfl rfl rfl hu26 z35 o35 (show (i : Int) < l.length by omega) eA rfl) ?_
      refine E.GL.run rfl rfl rfl (E.Runs.fieldAddr rfl rfl hu35 rfl (by assumption) rfl) ?_
      refine E.GL.run rfl rfl rfl (E.Runs.load (v := .int .i64 x2) rfl rfl hu3 (by rw [← E.add_onA]; exact pw_cell_below L (X 2 _ rfl))) ?_
      refine E.GL.run rfl rfl rfl (E.Runs.add rfl rfl rfl (IntWalk.i64_in _ (by omega))) ?_
      refine E.GL.run rfl rfl rfl (E.Runs.assign rfl rfl) ?_
      refine E.GL.done ?_
      refine E.QG.block_normal ?_
      refine E.QG.code ?_
      refine E.CG.list ?_
      refine E.GL.run rfl rfl rfl (E.Runs.move rfl rfl) ?_
      refine E.GL.run rfl rfl rfl (E.Runs.add rfl rfl rfl (IntWalk.i64_in _ (by omega))) ?_
      refine E.GL.run rfl rfl rfl (E.Runs.assign rfl rfl) ?_
      refine E.GL.done ?_
      exact E.QG.round (i + 1) (E.subc rfl (E.subc rfl (E.subc (by unfold outM; rw [hst, hof]; first | rfl | (rw [Int.add_zero]; rfl) | fail) (E.subc rfl E.subn)))) ⟨by omega, b2, L⟩ (by omega)
    · have hof : outF qs ⟨x0, (u : Int), x2⟩ = 0 := by unfold outF; rw [Int.toNat_natCast, if_neg h23]
      refine E.GQ.doneB fun v5 lD => ?_
      replace b2 := blk_below b2 lD
      replace L := below_step L lD
      have lD5 := lD
      clear lD
      refine E.QG.code ?_
      refine E.CG.cond_f rfl ?_
      refine E.CG.skip ?_
      refine E.QG.block_normal ?_
      refine E.QG.code ?_
      refine E.CG.list ?_
      refine E.GL.run rfl rfl rfl (E.Runs.move rfl rfl) ?_
      refine E.GL.run rfl rfl rfl (E.Runs.add rfl rfl rfl (IntWalk.i64_in _ (by omega))) ?_
      refine E.GL.run rfl rfl rfl (E.Runs.assign rfl rfl) ?_
      refine E.GL.done ?_
      exact E.QG.round (i + 1) (E.subc rfl (E.subc rfl (E.subc (by unfold outM; rw [hst, hof]; first | rfl | (rw [Int.add_zero]; rfl) | fail) (E.subc rfl E.subn)))) ⟨by omega, b2, L⟩ (by omega)
  · have hie : l.take i = l := List.take_of_length_le (by omega)
    refine E.GL.done ?_
    refine E.QG.code ?_
    refine E.CG.cond_f rfl ?_
    refine E.CG.exit ?_
    refine E.QG.pass_exit ?_
    refine E.QG.pass_exit ?_
    refine E.QG.block_here ?_
    refine E.QG.code ?_
    refine E.CG.seq ?_
    refine E.CG.list ?_
    refine E.GL.run rfl rfl rfl (E.Runs.move rfl rfl) ?_
    refine E.GL.run rfl rfl rfl (E.Runs.assign rfl rfl) ?_
    refine E.GL.done ?_
    refine E.QG.code ?_
    refine E.CG.ret ?_
    exact E.QG.result rfl rfl ⟨by rw [hie], L⟩

end Go.Proofs.Ytmnjlnkfihklgaa.T
namespace Go.Proofs.Ytmnjlnkfihklgaa.T
open Go.RowKit Go.Proofs.YtmnjlnkfihklgaaW.PrintWords Go.Proofs.YtmnjlnkfihklgaaW.PrintMore
open Go.Proofs.Ytmnjlnkfihklgaa.P
set_option linter.unusedVariables false
set_option linter.unusedSimpArgs false

set_option maxRecDepth 100000 in
theorem build25 (A B : Option Addr) (n c m d : Nat) (W : World) : (Instr.build 25 #[(0, .slice A n c), (1, .slice B m d)]).run Try.prog W = .ok (.agg #[.slice A n c, .slice B m d]) W := by
  have hu22 := Try.underlying22
  have hu23 := Try.underlying23
  have hu25 := Try.underlying25
  go_simp
end Go.Proofs.Ytmnjlnkfihklgaa.T
namespace Go.Proofs.Ytmnjlnkfihklgaa.T
open Go.RowKit Go.Proofs.YtmnjlnkfihklgaaW.PrintWords Go.Proofs.YtmnjlnkfihklgaaW.PrintMore
open Go.Proofs.Ytmnjlnkfihklgaa.P
set_option linter.unusedVariables false
set_option linter.unusedSimpArgs false

/-- A move that is right by itself. -/
def MvOk (qs : List S45) (T : Int) (x : S35) : Prop := inR x.f0 0 T ∧ inR x.f1 0 (qs.length - 1) ∧ 1 ≤ x.f2 ∧ x.f2 ≤ 20 ∧ x.f0 + (qs.getD x.f1.toNat P.z45).f3 ≤ T
/-- How many use a passage in a minute. -/
def usedF (p t : Int) (y : S35) : Int := if y.f0 = t ∧ y.f1 = p then y.f2 else 0
def usedM (l : List S35) (p t : Int) : Int := sumM (usedF p t) l
/-- What a move changes in a room up to a minute. -/
def thF (qs : List S45) (r m : Int) (x : S35) : Int := (if (qs.getD x.f1.toNat P.z45).f1 = r ∧ x.f0 + (qs.getD x.f1.toNat P.z45).f3 ≤ m then x.f2 else 0) - (if (qs.getD x.f1.toNat P.z45).f0 = r ∧ x.f0 ≤ m then x.f2 else 0)
def thM (ps : List Int) (qs : List S45) (l : List S35) (r m : Nat) : Int := ps.getD r 0 + sumM (thF qs r m) l
def Mv1 (qs : List S45) (T : Int) (l : List S35) (i : Nat) (x : S35) : Prop := MvOk qs T x ∧ usedM (l.take (i + 1)) x.f1 x.f0 ≤ (qs.getD x.f1.toNat P.z45).f2
structure IsPl (ps : List Int) (qs : List S45) (T : Nat) (l : List S35) : Prop where
  mv : ∀ (i : Nat) x, l[i]? = some x → Mv1 qs T l i x
  th : ∀ r m, r < ps.length → m ≤ T → 0 ≤ thM ps qs l r m
theorem mvIn_of {qs : List S45} {T : Int} {l : List S35} {n : Nat} (h : ∀ k, k < n → ∀ x, l[k]? = some x → MvOk qs T x) (hn : l.length ≤ n) : MvIn qs l := fun x hx => by
  obtain ⟨k, hk⟩ := List.mem_iff_getElem?.mp hx
  obtain ⟨h1, h2, h3, h4, _⟩ := h k (by have := (List.getElem?_eq_some_iff.1 hk).1; omega) x hk
  unfold inR at h2
  omega
theorem all_more2 {α : Type} {p : Nat → α → Prop} {l : List α} {n : Nat} {g : α} (h : ∀ k, k < n → ∀ x, l[k]? = some x → p k x) (hg : l[n]? = some g) (k : p n g) : ∀ k, k < n + 1 → ∀ x, l[k]? = some x → p k x := by
  intro j hj x hx
  by_cases e : j = n
  · subst e
    rw [hg] at hx
    cases hx
    exact k
  · exact h j (by omega) x hx
theorem usedM_b {qs : List S45} {T : Int} {l : List S35} {n : Nat} (h : ∀ k, k < n → ∀ x, l[k]? = some x → MvOk qs T x) (p t : Int) : 0 ≤ usedM (l.take n) p t ∧ usedM (l.take n) p t ≤ 20 * n := by
  have h1 := sumM_b (h := usedF p t) (b := 20) (l := l.take n) (fun x hx => by
    obtain ⟨k, hk⟩ := List.mem_iff_getElem?.mp hx
    rw [List.getElem?_take] at hk
    split at hk
    · next q =>
      obtain ⟨_, _, h3, h4, _⟩ := h k q x hk
      unfold usedF
      split <;> omega
    · cases hk)
  have h2 : (l.take n).length ≤ n := by rw [List.length_take]; omega
  unfold usedM
  omega
theorem sumM_b2 {h : S35 → Int} {b : Int} : ∀ {l : List S35}, (∀ x ∈ l, -b ≤ h x ∧ h x ≤ b) → -(b * l.length) ≤ sumM h l ∧ sumM h l ≤ b * l.length
  | [], _ => by simp [sumM]
  | x :: l, H => by
    have h1 := sumM_b2 (l := l) (fun y hy => H y (List.mem_cons_of_mem _ hy))
    have h2 := H x List.mem_cons_self
    have h3 : b * ((x :: l).length : Nat) = b * l.length + b := by rw [List.length_cons]; push_cast; rw [Int.mul_add, Int.mul_one]
    rw [h3]
    simp only [sumM]
    omega
theorem thF_b {qs : List S45} {l : List S35} (h : MvIn qs l) (r m : Int) (n : Nat) : -(20 * (n : Int)) ≤ sumM (thF qs r m) (l.take n) ∧ sumM (thF qs r m) (l.take n) ≤ 20 * n := by
  have h1 := sumM_b2 (h := thF qs r m) (b := 20) (l := l.take n) (fun x hx => by
    have := h x (List.mem_of_mem_take hx)
    unfold thF
    split <;> split <;> omega)
  have h2 : (l.take n).length ≤ n := by rw [List.length_take]; omega
  omega
set_option maxRecDepth 100000 in
set_option maxHeartbeats 8000000 in

theorem isPlan_calls (ps : List Int) (qs : List S45) (A B C : Option Addr) (c d k : Nat) (T : Nat) (l : List S35) (r : Bool) (hok : HOk ps qs) (hb : r = true ↔ IsPl ps qs T l) (w : World) (hP : Kd.C kI w A ps.length ps) (hQ : Kd.C k45 w B qs.length qs) (hM : Kd.C k35 w C l.length l) (hn : l.length ≤ 1000000) (hT : T ≤ 60) :
    Calls Try.prog 33 #[hv ps qs A B c d, .int .i64 (T : Int), .slice C l.length k] w fun e w' => e = .returned (.bool r) ∧ Below w.heap.size w w' := by
  have hu3 := Try.underlying3
  have hu22 := Try.underlying22
  have hu23 := Try.underlying23
  have hu25 := Try.underlying25
  have hu26 := Try.underlying26
  have hu35 := Try.underlying35
  have hu45 := Try.underlying45
  obtain ⟨z3, o3⟩ := info_some info3s (by decide)
  obtain ⟨z22, o22⟩ := info_some info22s (by decide)
  obtain ⟨z23, o23⟩ := info_some info23s (by decide)
  obtain ⟨z35, o35⟩ := info_some info35s (by decide)
  obtain ⟨z45, o45⟩ := info_some info45s (by decide)
  have hr6 := hok.r6
  have hq12 := hok.q12
  refine E.enter (N := 181) Try.func33 rfl Try.ntmps33 (args := [hv ps qs A B c d, .int .i64 (T : Int), .slice C l.length k]) (by simp) ?_
  have L := Below.refl w.heap.size w
  refine E.CG.seq ?_
  refine E.CG.list ?_
  refine E.GL.st rfl rfl rfl (E.ST.box rfl rfl fun g3 w3 e3 b3 l3 => ?_)
  have h3_L : w.heap.size ≤ g3 := by rw [e3]; exact L.size
  replace L := below_step L l3
  refine E.GL.run rfl rfl rfl (E.Runs.assign rfl rfl) ?_
  refine E.GL.done ?_
  refine E.QG.code ?_
  refine E.CG.seq ?_
  refine E.CG.seq ?_
  refine E.CG.list ?_
  refine E.GL.run rfl rfl rfl (E.Runs.assign rfl rfl) ?_
  refine E.GL.done ?_
  refine E.QG.code ?_
  refine E.CG.block ?_
  have s2_b3 := b3
  have s2_L := L
  refine E.CG.loop (fun (i : Nat) => [(1, .int .i64 (T : Int)), (2, .slice C l.length k), (3, .pointer (some ⟨g3, 0, none⟩)), (7, .int .i64 i)]) (fun i w' => i ≤ l.length ∧ w'.heap[g3]? = some (.cells #[.slice A ps.length c, .slice B qs.length d] 25 (0, 0)) ∧ Below w.heap.size w w' ∧ ∀ k, k < i → ∀ x, l[k]? = some x → Mv1 qs T l k x) (fun i => l.length - i) 0 (E.subc rfl (E.subc rfl (E.subc rfl (E.subc rfl E.subn)))) ⟨Nat.zero_le _, b3, L, fun k hk => by omega⟩ ?_
  rintro i w2 ⟨hi, b3, L, hmv⟩
  refine E.CG.seq ?_
  refine E.CG.seq ?_
  refine E.CG.list ?_
  refine E.GL.run rfl rfl rfl (E.Runs.move rfl rfl) ?_
  refine E.GL.run rfl rfl rfl (E.Runs.move rfl rfl) ?_
  refine E.GL.run rfl rfl rfl (E.Runs.len rfl rfl hu26) ?_
  refine E.GL.cmp rfl rfl rfl (fun _ h => (E.Runs.lss rfl rfl rfl h)) (fun h19 => ?_) (fun h19 => ?_)
  · obtain ⟨x, hx⟩ : ∃ x, l[i]? = some x := ⟨_, List.getElem?_eq_getElem (by omega)⟩
    obtain ⟨ad, eA, X⟩ := move_at hM hx
    refine E.GL.done ?_
    refine E.QG.code ?_
    refine E.CG.cond_t rfl ?_
    refine E.CG.skip ?_
    refine E.QG.code ?_
    refine E.CG.seq ?_
    refine E.CG.block ?_
    refine E.CG.seq ?_
    refine E.CG.list ?_
    refine E.GL.run rfl rfl rfl (E.Runs.move rfl rfl) ?_
    refine E.GL.run rfl rfl rfl (E.Runs.move rfl rfl) ?_
    refine E.GL.run rfl rfl rfl (E.Runs.indexAddrA rfl rfl rfl hu26 z35 o35 (show ((i : Nat) : Int) < l.length by omega) eA rfl) ?_
    refine E.GL.run rfl rfl rfl (E.Runs.loads (cs := [.int .i64 x.f0, .int .i64 x.f1, .int .i64 x.f2]) rfl rfl hu35 rfl info35s (fun j v hv => pw_cell_below L (X j v hv))) ?_
    refine E.GL.st rfl rfl rfl (E.ST.alloc rfl info35z fun g8 w8 e8 b8 l8 => ?_)
    have h8_L : w.heap.size ≤ g8 := by rw [e8]; exact L.size
    have n8_b3 : g3 ≠ g8 := by have := blk_lt b3; omega
    replace b3 := blk_below b3 l8
    replace L := below_step L l8
    refine E.GL.store_whole rfl rfl rfl rfl rfl b8 rfl info35s (three_one _ _ _) fun wS4_5 c8 lS4_5 => ?_
    replace b3 := blk_grown b3 lS4_5 (E.nes (by first | assumption | exact Ne.symm (by assumption)))
    replace L := E.below_own L h8_L lS4_5
    replace b8 := c8
    clear c8
    refine E.GL.done ?_
    refine E.QG.code ?_
    refine E.CG.seq ?_
    refine E.CG.seq ?_
    refine E.CG.heldH (none) (by kernel_rfl) fun v5 lD hh => ?_
    replace b3 := blk_below b3 lD
    replace b8 := blk_below b8 lD
    replace L := below_step L lD
    clear lD
    have s_b3 := b3
    have s_b8 := b8
    have s_L := L
    refine E.GH.take (i := 0) rfl (by kernel_rfl) (by kernel_rfl) (by kernel_rfl) (by intro c a d v w h; cases d <;> exact h) rfl rfl rfl (fun w' hS => (E.Runs.fieldAddr rfl rfl hu35 rfl (by assumption) rfl)) ?_
    refine E.GH.take (i := 1) rfl (by kernel_rfl) (by kernel_rfl) (by kernel_rfl) (by intro c a d v w h; cases d <;> exact h) rfl rfl rfl (fun w' hS => (E.Runs.load rfl rfl hu3 (by first | exact E.keeps hS (E.blkc (by assumption) rfl) (by first | exact E.nen | exact E.nes (by assumption) | exact E.nes (Ne.symm (by assumption))) | exact pw_cell_below (below_step s_L (E.belowG hS)) (by assumption)))) ?_
    refine E.GH.take (i := 2) rfl (by kernel_rfl) (by kernel_rfl) (by kernel_rfl) (by intro c a d v w h; cases d <;> exact h) rfl rfl rfl (fun w' hS => (E.Runs.move rfl rfl)) ?_
    by_cases h29 : inR x.f0 0 T
    · refine E.GH.one (i := 3) (by kernel_rfl) rfl ?_
      refine E.GO.st rfl rfl rfl (E.ST.call rfl ent44 (E.evc rfl (E.evc rfl (E.evc rfl E.evn))) ((within_r x.f0 0 T true (iff_of_true rfl h29) _).mono ?_))
      rintro e w29 ⟨rfl, l29⟩
      refine ⟨_, rfl, hh.trans (E.gbB l29), ?_⟩
      replace hh := hh.trans (E.gbB l29)
      replace b3 := blk_below b3 l29
      replace b8 := blk_below b8 l29
      replace L := below_step L l29
      refine E.GH.take (i := 4) rfl (by kernel_rfl) (by kernel_rfl) (by kernel_rfl) (by intro c a d v w h; cases d <;> exact h) rfl rfl rfl (fun w' hS => (E.Runs.not rfl rfl)) ?_
      refine E.GH.take (i := 5) rfl (by kernel_rfl) (by kernel_rfl) (by kernel_rfl) (by intro c a d v w h; cases d <;> exact h) rfl rfl rfl (fun w' hS => (E.Runs.move rfl rfl)) ?_
      refine E.GH.take (i := 6) rfl (by kernel_rfl) (by kernel_rfl) (by kernel_rfl) (by intro c a d v w h; cases d <;> exact h) rfl rfl rfl (fun w' hS => (E.Runs.fieldAddr rfl rfl hu35 rfl (by assumption) rfl)) ?_
      refine E.GH.take (i := 7) rfl (by kernel_rfl) (by kernel_rfl) (by kernel_rfl) (by intro c a d v w h; cases d <;> exact h) rfl rfl rfl (fun w' hS => (E.Runs.load rfl rfl hu3 (by first | exact E.keeps hS (E.blkc (by assumption) rfl) (by first | exact E.nen | exact E.nes (by assumption) | exact E.nes (Ne.symm (by assumption))) | exact pw_cell_below (below_step s_L (E.belowG hS)) (by assumption)))) ?_
      refine E.GH.take (i := 8) rfl (by kernel_rfl) (by kernel_rfl) (by kernel_rfl) (by intro c a d v w h; cases d <;> exact h) rfl rfl rfl (fun w' hS => (E.Runs.fieldAddr rfl rfl hu25 rfl (by assumption) rfl)) ?_
      refine E.GH.take (i := 9) rfl (by kernel_rfl) (by kernel_rfl) (by kernel_rfl) (by intro c a d v w h; cases d <;> exact h) rfl rfl rfl (fun w' hS => (E.Runs.load1 rfl rfl hu23 rfl (by first | exact E.keeps hS (E.blkc (by assumption) rfl) (by first | exact E.nen | exact E.nes (by assumption) | exact E.nes (Ne.symm (by assumption))) | exact pw_cell_below (below_step s_L (E.belowG hS)) (by assumption)))) ?_
      refine E.GH.take (i := 10) rfl (by kernel_rfl) (by kernel_rfl) (by kernel_rfl) (by intro c a d v w h; cases d <;> exact h) rfl rfl rfl (fun w' hS => (E.Runs.len rfl rfl hu23)) ?_
      refine E.GH.take (i := 11) rfl (by kernel_rfl) (by kernel_rfl) (by kernel_rfl) (by intro c a d v w h; cases d <;> exact h) rfl rfl rfl (fun w' hS => (E.Runs.sub rfl rfl rfl (IntWalk.i64_in _ (by omega)))) ?_
      by_cases h38 : inR x.f1 0 (qs.length - 1)
      · have h29b := h29
        unfold inR at h29b
        obtain ⟨u, hu1⟩ : ∃ u : Nat, (u : Int) = x.f1 := ⟨x.f1.toNat, by unfold inR at h38; omega⟩
        have hul : u < qs.length := by unfold inR at h38; omega
        obtain ⟨q, hq⟩ : ∃ q, q = qs.getD u P.z45 := ⟨_, rfl⟩
        have hqu : qs.getD x.f1.toNat P.z45 = q := by rw [hq, ← hu1, Int.toNat_natCast]
        obtain ⟨aQ, eQ, cQ⟩ := pass_at hQ (show qs[u]? = some q by rw [hq]; exact getD_some hul _)
        obtain ⟨hq1, hq2, hq3, hq4, hq5, hq6, hq7, hq8, hq9⟩ := hok.q q (by rw [hq]; exact getD_mem hul)
        refine E.GH.one (i := 12) (by kernel_rfl) rfl ?_
        refine E.GO.st rfl rfl rfl (E.ST.call rfl ent44 (E.evc rfl (E.evc rfl (E.evc rfl E.evn))) ((within_r x.f1 0 (qs.length - 1) true (iff_of_true rfl h38) _).mono ?_))
        rintro e w38 ⟨rfl, l38⟩
        refine ⟨_, rfl, hh.trans (E.gbB l38), ?_⟩
        replace hh := hh.trans (E.gbB l38)
        replace b3 := blk_below b3 l38
        replace b8 := blk_below b8 l38
        replace L := below_step L l38
        refine E.GH.take (i := 13) rfl (by kernel_rfl) (by kernel_rfl) (by kernel_rfl) (by intro c a d v w h; cases d <;> exact h) rfl rfl rfl (fun w' hS => (E.Runs.not rfl rfl)) ?_
        refine E.GH.take (i := 14) rfl (by kernel_rfl) (by kernel_rfl) (by kernel_rfl) (by intro c a d v w h; cases d <;> exact h) rfl rfl rfl (fun w' hS => (E.Runs.pick_f rfl rfl rfl)) ?_
        refine E.GH.take (i := 15) rfl (by kernel_rfl) (by kernel_rfl) (by kernel_rfl) (by intro c a d v w h; cases d <;> exact h) rfl rfl rfl (fun w' hS => (E.Runs.move rfl rfl)) ?_
        refine E.GH.take (i := 16) rfl (by kernel_rfl) (by kernel_rfl) (by kernel_rfl) (by intro c a d v w h; cases d <;> exact h) rfl rfl rfl (fun w' hS => (E.Runs.fieldAddr rfl rfl hu35 rfl (by assumption) rfl)) ?_
        refine E.GH.take (i := 17) rfl (by kernel_rfl) (by kernel_rfl) (by kernel_rfl) (by intro c a d v w h; cases d <;> exact h) rfl rfl rfl (fun w' hS => (E.Runs.load rfl rfl hu3 (by first | exact E.keeps hS (E.blkc (by assumption) rfl) (by first | exact E.nen | exact E.nes (by assumption) | exact E.nes (Ne.symm (by assumption))) | exact pw_cell_below (below_step s_L (E.belowG hS)) (by assumption)))) ?_
        refine E.GH.cmp (i := 18) rfl (by kernel_rfl) (by kernel_rfl) (by kernel_rfl) (by intro c a d v w h; cases d <;> exact h) rfl rfl rfl (fun _ h w' hS => (E.Runs.lss rfl rfl rfl h)) (fun h44 => ?_) (fun h44 => ?_)
        · refine E.GH.take (i := 19) rfl (by kernel_rfl) (by kernel_rfl) (by kernel_rfl) (by intro c a d v w h; cases d <;> exact h) rfl rfl rfl (fun w' hS => (E.Runs.pick_f rfl rfl rfl)) ?_
          refine E.GH.take (i := 20) rfl (by kernel_rfl) (by kernel_rfl) (by kernel_rfl) (by intro c a d v w h; cases d <;> exact h) rfl rfl rfl (fun w' hS => (E.Runs.move rfl rfl)) ?_
          refine E.GH.pass (i := 21) rfl (by kernel_rfl) (by kernel_rfl) (by kernel_rfl) (by intro c a d v w h; cases d <;> exact h) rfl rfl rfl ?_
          refine E.GH.pass (i := 22) rfl (by kernel_rfl) (by kernel_rfl) (by kernel_rfl) (by intro c a d v w h; cases d <;> exact h) rfl rfl rfl ?_
          refine E.GH.pass (i := 23) rfl (by kernel_rfl) (by kernel_rfl) (by kernel_rfl) (by intro c a d v w h; cases d <;> exact h) rfl rfl rfl ?_
          refine E.GH.take (i := 24) rfl (by kernel_rfl) (by kernel_rfl) (by kernel_rfl) (by intro c a d v w h; cases d <;> exact h) rfl rfl rfl (fun w' hS => (E.Runs.pick_t rfl rfl rfl)) ?_
          refine E.GH.take (i := 25) rfl (by kernel_rfl) (by kernel_rfl) (by kernel_rfl) (by intro c a d v w h; cases d <;> exact h) rfl rfl rfl (fun w' hS => (E.Runs.move rfl rfl)) ?_
          refine E.GH.pass (i := 26) rfl (by kernel_rfl) (by kernel_rfl) (by kernel_rfl) (by intro c a d v w h; cases d <;> exact h) rfl rfl rfl ?_
          refine E.GH.pass (i := 27) rfl (by kernel_rfl) (by kernel_rfl) (by kernel_rfl) (by intro c a d v w h; cases d <;> exact h) rfl rfl rfl ?_
          refine E.GH.pass (i := 28) rfl (by kernel_rfl) (by kernel_rfl) (by kernel_rfl) (by intro c a d v w h; cases d <;> exact h) rfl rfl rfl ?_
          refine E.GH.pass (i := 29) rfl (by kernel_rfl) (by kernel_rfl) (by kernel_rfl) (by intro c a d v w h; cases d <;> exact h) rfl rfl rfl ?_
          refine E.GH.pass (i := 30) rfl (by kernel_rfl) (by kernel_rfl) (by kernel_rfl) (by intro c a d v w h; cases d <;> exact h) rfl rfl rfl ?_
          refine E.GH.pass (i := 31) rfl (by kernel_rfl) (by kernel_rfl) (by kernel_rfl) (by intro c a d v w h; cases d <;> exact h) rfl rfl rfl ?_
          refine E.GH.pass (i := 32) rfl (by kernel_rfl) (by kernel_rfl) (by kernel_rfl) (by intro c a d v w h; cases d <;> exact h) rfl rfl rfl ?_
          refine E.GH.pass (i := 33) rfl (by kernel_rfl) (by kernel_rfl) (by kernel_rfl) (by intro c a d v w h; cases d <;> exact h) rfl rfl rfl ?_
          refine E.GH.pass (i := 34) rfl (by kernel_rfl) (by kernel_rfl) (by kernel_rfl) (by intro c a d v w h; cases d <;> exact h) rfl rfl rfl ?_
          refine E.GH.pass (i := 35) rfl (by kernel_rfl) (by kernel_rfl) (by kernel_rfl) (by intro c a d v w h; cases d <;> exact h) rfl rfl rfl ?_
          refine E.GH.pass (i := 36) rfl (by kernel_rfl) (by kernel_rfl) (by kernel_rfl) (by intro c a d v w h; cases d <;> exact h) rfl rfl rfl ?_
          refine E.GH.pass (i := 37) rfl (by kernel_rfl) (by kernel_rfl) (by kernel_rfl) (by intro c a d v w h; cases d <;> exact h) rfl rfl rfl ?_
          refine E.GH.take (i := 38) rfl (by kernel_rfl) (by kernel_rfl) (by kernel_rfl) (by intro c a d v w h; cases d <;> exact h) rfl rfl rfl (fun w' hS => (E.Runs.pick_t rfl rfl rfl)) ?_
          refine E.GH.done (by kernel_rfl) ?_
          refine E.QG.code ?_
          refine E.CG.cond_t rfl ?_
          refine E.CG.seq ?_
          refine E.CG.list ?_
          refine E.GL.run rfl rfl rfl (E.Runs.assign rfl rfl) ?_
          refine E.GL.done ?_
          refine E.QG.code ?_
          refine E.CG.ret ?_
          refine E.QG.pass_ret ?_
          refine E.QG.block_ret ?_
          refine E.QG.pass_ret ?_
          refine E.QG.pass_ret ?_
          refine E.QG.block_ret ?_
          refine E.QG.pass_ret ?_
          exact E.QG.result rfl rfl ⟨by rw [bool_no hb (fun k => by obtain ⟨⟨q1, q2, q3, q4, q5⟩, q6⟩ := k.mv i x hx; omega)], L⟩
        · refine E.GH.take (i := 19) rfl (by kernel_rfl) (by kernel_rfl) (by kernel_rfl) (by intro c a d v w h; cases d <;> exact h) rfl rfl rfl (fun w' hS => (E.Runs.pick_f rfl rfl rfl)) ?_
          refine E.GH.take (i := 20) rfl (by kernel_rfl) (by kernel_rfl) (by kernel_rfl) (by intro c a d v w h; cases d <;> exact h) rfl rfl rfl (fun w' hS => (E.Runs.move rfl rfl)) ?_
          refine E.GH.take (i := 21) rfl (by kernel_rfl) (by kernel_rfl) (by kernel_rfl) (by intro c a d v w h; cases d <;> exact h) rfl rfl rfl (fun w' hS => (E.Runs.fieldAddr rfl rfl hu35 rfl (by assumption) rfl)) ?_
          refine E.GH.take (i := 22) rfl (by kernel_rfl) (by kernel_rfl) (by kernel_rfl) (by intro c a d v w h; cases d <;> exact h) rfl rfl rfl (fun w' hS => (E.Runs.load rfl rfl hu3 (by first | exact E.keeps hS (E.blkc (by assumption) rfl) (by first | exact E.nen | exact E.nes (by assumption) | exact E.nes (Ne.symm (by assumption))) | exact pw_cell_below (below_step s_L (E.belowG hS)) (by assumption)))) ?_
          refine E.GH.cmp (i := 23) rfl (by kernel_rfl) (by kernel_rfl) (by kernel_rfl) (by intro c a d v w h; cases d <;> exact h) rfl rfl rfl (fun _ h w' hS => (E.Runs.gtr rfl rfl rfl h)) (fun h49 => ?_) (fun h49 => ?_)
          · refine E.GH.take (i := 24) rfl (by kernel_rfl) (by kernel_rfl) (by kernel_rfl) (by intro c a d v w h; cases d <;> exact h) rfl rfl rfl (fun w' hS => (E.Runs.pick_f rfl rfl rfl)) ?_
            refine E.GH.take (i := 25) rfl (by kernel_rfl) (by kernel_rfl) (by kernel_rfl) (by intro c a d v w h; cases d <;> exact h) rfl rfl rfl (fun w' hS => (E.Runs.move rfl rfl)) ?_
            refine E.GH.pass (i := 26) rfl (by kernel_rfl) (by kernel_rfl) (by kernel_rfl) (by intro c a d v w h; cases d <;> exact h) rfl rfl rfl ?_
            refine E.GH.pass (i := 27) rfl (by kernel_rfl) (by kernel_rfl) (by kernel_rfl) (by intro c a d v w h; cases d <;> exact h) rfl rfl rfl ?_
            refine E.GH.pass (i := 28) rfl (by kernel_rfl) (by kernel_rfl) (by kernel_rfl) (by intro c a d v w h; cases d <;> exact h) rfl rfl rfl ?_
            refine E.GH.pass (i := 29) rfl (by kernel_rfl) (by kernel_rfl) (by kernel_rfl) (by intro c a d v w h; cases d <;> exact h) rfl rfl rfl ?_
            refine E.GH.pass (i := 30) rfl (by kernel_rfl) (by kernel_rfl) (by kernel_rfl) (by intro c a d v w h; cases d <;> exact h) rfl rfl rfl ?_
            refine E.GH.pass (i := 31) rfl (by kernel_rfl) (by kernel_rfl) (by kernel_rfl) (by intro c a d v w h; cases d <;> exact h) rfl rfl rfl ?_
            refine E.GH.pass (i := 32) rfl (by kernel_rfl) (by kernel_rfl) (by kernel_rfl) (by intro c a d v w h; cases d <;> exact h) rfl rfl rfl ?_
            refine E.GH.pass (i := 33) rfl (by kernel_rfl) (by kernel_rfl) (by kernel_rfl) (by intro c a d v w h; cases d <;> exact h) rfl rfl rfl ?_
            refine E.GH.pass (i := 34) rfl (by kernel_rfl) (by kernel_rfl) (by kernel_rfl) (by intro c a d v w h; cases d <;> exact h) rfl rfl rfl ?_
            refine E.GH.pass (i := 35) rfl (by kernel_rfl) (by kernel_rfl) (by kernel_rfl) (by intro c a d v w h; cases d <;> exact h) rfl rfl rfl ?_
            refine E.GH.pass (i := 36) rfl (by kernel_rfl) (by kernel_rfl) (by kernel_rfl) (by intro c a d v w h; cases d <;> exact h) rfl rfl rfl ?_
            refine E.GH.pass (i := 37) rfl (by kernel_rfl) (by kernel_rfl) (by kernel_rfl) (by intro c a d v w h; cases d <;> exact h) rfl rfl rfl ?_
            refine E.GH.take (i := 38) rfl (by kernel_rfl) (by kernel_rfl) (by kernel_rfl) (by intro c a d v w h; cases d <;> exact h) rfl rfl rfl (fun w' hS => (E.Runs.pick_t rfl rfl rfl)) ?_
            refine E.GH.done (by kernel_rfl) ?_
            refine E.QG.code ?_
            refine E.CG.cond_t rfl ?_
            refine E.CG.seq ?_
            refine E.CG.list ?_
            refine E.GL.run rfl rfl rfl (E.Runs.assign rfl rfl) ?_
            refine E.GL.done ?_
            refine E.QG.code ?_
            refine E.CG.ret ?_
            refine E.QG.pass_ret ?_
            refine E.QG.block_ret ?_
            refine E.QG.pass_ret ?_
            refine E.QG.pass_ret ?_
            refine E.QG.block_ret ?_
            refine E.QG.pass_ret ?_
            exact E.QG.result rfl rfl ⟨by rw [bool_no hb (fun k => by obtain ⟨⟨q1, q2, q3, q4, q5⟩, q6⟩ := k.mv i x hx; omega)], L⟩
          · refine E.GH.take (i := 24) rfl (by kernel_rfl) (by kernel_rfl) (by kernel_rfl) (by intro c a d v w h; cases d <;> exact h) rfl rfl rfl (fun w' hS => (E.Runs.pick_f rfl rfl rfl)) ?_
            refine E.GH.take (i := 25) rfl (by kernel_rfl) (by kernel_rfl) (by kernel_rfl) (by intro c a d v w h; cases d <;> exact h) rfl rfl rfl (fun w' hS => (E.Runs.move rfl rfl)) ?_
            refine E.GH.take (i := 26) rfl (by kernel_rfl) (by kernel_rfl) (by kernel_rfl) (by intro c a d v w h; cases d <;> exact h) rfl rfl rfl (fun w' hS => (E.Runs.fieldAddr rfl rfl hu35 rfl (by assumption) rfl)) ?_
            refine E.GH.take (i := 27) rfl (by kernel_rfl) (by kernel_rfl) (by kernel_rfl) (by intro c a d v w h; cases d <;> exact h) rfl rfl rfl (fun w' hS => (E.Runs.load rfl rfl hu3 (by first | exact E.keeps hS (E.blkc (by assumption) rfl) (by first | exact E.nen | exact E.nes (by assumption) | exact E.nes (Ne.symm (by assumption))) | exact pw_cell_below (below_step s_L (E.belowG hS)) (by assumption)))) ?_
            refine E.GH.take (i := 28) rfl (by kernel_rfl) (by kernel_rfl) (by kernel_rfl) (by intro c a d v w h; cases d <;> exact h) rfl rfl rfl (fun w' hS => (E.Runs.fieldAddr rfl rfl hu25 rfl (by assumption) rfl)) ?_
            refine E.GH.take (i := 29) rfl (by kernel_rfl) (by kernel_rfl) (by kernel_rfl) (by intro c a d v w h; cases d <;> exact h) rfl rfl rfl (fun w' hS => (E.Runs.load1 rfl rfl hu23 rfl (by first | exact E.keeps hS (E.blkc (by assumption) rfl) (by first | exact E.nen | exact E.nes (by assumption) | exact E.nes (Ne.symm (by assumption))) | exact pw_cell_below (below_step s_L (E.belowG hS)) (by assumption)))) ?_
            refine E.GH.take (i := 30) rfl (by kernel_rfl) (by kernel_rfl) (by kernel_rfl) (by intro c a d v w h; cases d <;> exact h) rfl rfl rfl (fun w' hS => (E.Runs.fieldAddr rfl rfl hu35 rfl (by assumption) rfl)) ?_
            refine E.GH.take (i := 31) rfl (by kernel_rfl) (by kernel_rfl) (by kernel_rfl) (by intro c a d v w h; cases d <;> exact h) rfl rfl rfl (fun w' hS => (E.Runs.load rfl rfl hu3 (by first | exact E.keeps hS (E.blkc (by assumption) rfl) (by first | exact E.nen | exact E.nes (by assumption) | exact E.nes (Ne.symm (by assumption))) | exact pw_cell_below (below_step s_L (E.belowG hS)) (by assumption)))) ?_
            refine E.GH.take (i := 32) rfl (by kernel_rfl) (by kernel_rfl) (by kernel_rfl) (by intro c a d v w h; cases d <;> exact h) rfl rfl rfl (fun w' hS => (E.Runs.indexAddrA (i := u) rfl rfl (by rw [hu1]; rfl) hu23 z45 o45 (show (u : Int) < qs.length by omega) eQ rfl)) ?_
            refine E.GH.take (i := 33) rfl (by kernel_rfl) (by kernel_rfl) (by kernel_rfl) (by intro c a d v w h; cases d <;> exact h) rfl rfl rfl (fun w' hS => (E.Runs.fieldAddr rfl rfl hu45 rfl (by assumption) rfl)) ?_
            refine E.GH.take (i := 34) rfl (by kernel_rfl) (by kernel_rfl) (by kernel_rfl) (by intro c a d v w h; cases d <;> exact h) rfl rfl rfl (fun w' hS => (E.Runs.load (v := .int .i64 q.f3) rfl rfl hu3 (by rw [← E.add_onA]; exact pw_cell_below (below_step s_L (E.belowG hS)) (cQ 3 _ rfl)))) ?_
            refine E.GH.take (i := 35) rfl (by kernel_rfl) (by kernel_rfl) (by kernel_rfl) (by intro c a d v w h; cases d <;> exact h) rfl rfl rfl (fun w' hS => (E.Runs.add rfl rfl rfl (IntWalk.i64_in _ (by omega)))) ?_
            refine E.GH.take (i := 36) rfl (by kernel_rfl) (by kernel_rfl) (by kernel_rfl) (by intro c a d v w h; cases d <;> exact h) rfl rfl rfl (fun w' hS => (E.Runs.move rfl rfl)) ?_
            refine E.GH.cmp (i := 37) rfl (by kernel_rfl) (by kernel_rfl) (by kernel_rfl) (by intro c a d v w h; cases d <;> exact h) rfl rfl rfl (fun _ h w' hS => (E.Runs.gtr rfl rfl rfl h)) (fun h63 => ?_) (fun h63 => ?_)
            · refine E.GH.take (i := 38) rfl (by kernel_rfl) (by kernel_rfl) (by kernel_rfl) (by intro c a d v w h; cases d <;> exact h) rfl rfl rfl (fun w' hS => (E.Runs.pick_f rfl rfl rfl)) ?_
              refine E.GH.done (by kernel_rfl) ?_
              refine E.QG.code ?_
              refine E.CG.cond_t rfl ?_
              refine E.CG.seq ?_
              refine E.CG.list ?_
              refine E.GL.run rfl rfl rfl (E.Runs.assign rfl rfl) ?_
              refine E.GL.done ?_
              refine E.QG.code ?_
              refine E.CG.ret ?_
              refine E.QG.pass_ret ?_
              refine E.QG.block_ret ?_
              refine E.QG.pass_ret ?_
              refine E.QG.pass_ret ?_
              refine E.QG.block_ret ?_
              refine E.QG.pass_ret ?_
              exact E.QG.result rfl rfl ⟨by rw [bool_no hb (fun k => by obtain ⟨⟨q1, q2, q3, q4, q5⟩, q6⟩ := k.mv i x hx; rw [hqu] at q5; omega)], L⟩
            · refine E.GH.take (i := 38) rfl (by kernel_rfl) (by kernel_rfl) (by kernel_rfl) (by intro c a d v w h; cases d <;> exact h) rfl rfl rfl (fun w' hS => (E.Runs.pick_f rfl rfl rfl)) ?_
              refine E.GH.done (by kernel_rfl) ?_
              refine E.QG.code ?_
              refine E.CG.cond_f rfl ?_
              refine E.CG.skip ?_
              refine E.QG.code ?_
              refine E.CG.seq ?_
              refine E.CG.list ?_
              refine E.GL.run rfl rfl rfl (E.Runs.assign rfl rfl) ?_
              refine E.GL.done ?_
              refine E.QG.code ?_
              refine E.CG.seq ?_
              refine E.CG.seq ?_
              refine E.CG.list ?_
              refine E.GL.run rfl rfl rfl (E.Runs.assign rfl rfl) ?_
              refine E.GL.done ?_
              refine E.QG.code ?_
              refine E.CG.block ?_
              have hmo : MvOk qs T x := ⟨h29, h38, by omega, by omega, by rw [hqu]; omega⟩
              have hall : ∀ k, k < i + 1 → ∀ x, l[k]? = some x → MvOk qs T x := all_more (fun k hk x hx => (hmv k hk x hx).1) hx hmo
              have s9_b3 := b3
              have s9_b8 := b8
              have s9_L := L
              refine E.CG.loop (fun (j : Nat) => [(1, .int .i64 (T : Int)), (2, .slice C l.length k), (3, .pointer (some ⟨g3, 0, none⟩)), (7, .int .i64 i), (8, .pointer (some ⟨g8, 0, none⟩)), (9, .int .i64 (usedM (l.take j) x.f1 x.f0)), (10, .int .i64 j)]) (fun j w' => j ≤ i + 1 ∧ w'.heap[g3]? = some (.cells #[.slice A ps.length c, .slice B qs.length d] 25 (0, 0)) ∧ w'.heap[g8]? = some (.cells #[.int .i64 x.f0, .int .i64 x.f1, .int .i64 x.f2] 35 (0, 0)) ∧ Below w.heap.size w w') (fun j => i + 1 - j) 0 (E.subc rfl (E.subc rfl (E.subc rfl (E.subc rfl (E.subc rfl (E.subc rfl (E.subc rfl E.subn))))))) ⟨Nat.zero_le _, b3, b8, L⟩ ?_
              rintro j w9 ⟨hj, b3, b8, L⟩
              refine E.CG.seq ?_
              refine E.CG.seq ?_
              refine E.CG.list ?_
              refine E.GL.run rfl rfl rfl (E.Runs.move rfl rfl) ?_
              refine E.GL.run rfl rfl rfl (E.Runs.move rfl rfl) ?_
              refine E.GL.cmp rfl rfl rfl (fun _ h => (E.Runs.leq rfl rfl rfl h)) (fun h67 => ?_) (fun h67 => ?_)
              · have hji : j ≤ i := by omega
                obtain ⟨y, hy⟩ : ∃ x, l[j]? = some x := ⟨_, List.getElem?_eq_getElem (by omega)⟩
                obtain ⟨adj, eAj, Y⟩ := move_at hM hy
                have hub := usedM_b (fun k hk x hx => hall k (by omega) x hx) x.f1 x.f0 (n := j)
                have hst := sumM_step (h := usedF x.f1 x.f0) hy
                obtain ⟨_, _, yb3, yb4, _⟩ := hall j (by omega) y hy
                refine E.GL.done ?_
                refine E.QG.code ?_
                refine E.CG.cond_t rfl ?_
                refine E.CG.skip ?_
                refine E.QG.code ?_
                refine E.CG.seq ?_
                refine E.CG.block ?_
                refine E.CG.seq ?_
                refine E.CG.quietF (by kernel_rfl) rfl (by kernel_rfl) (by kernel_rfl) ?_
                refine E.GQ.run rfl rfl rfl (E.Runs.move rfl rfl) ?_
                refine E.GQ.run rfl rfl rfl (E.Runs.move rfl rfl) ?_
                refine E.GQ.run rfl rfl rfl (E.Runs.indexAddrA rfl rfl rfl hu26 z35 o35 (show ((j : Nat) : Int) < l.length by omega) eAj rfl) ?_
                refine E.GQ.run rfl rfl rfl (E.Runs.fieldAddr rfl rfl hu35 rfl (by assumption) rfl) ?_
                refine E.GQ.run rfl rfl rfl (E.Runs.load (v := .int .i64 y.f0) rfl rfl hu3 (by rw [← E.add_onA]; exact pw_cell_below L (Y 0 _ rfl))) ?_
                refine E.GQ.run rfl rfl rfl (E.Runs.fieldAddr rfl rfl hu35 rfl (by assumption) rfl) ?_
                refine E.GQ.run rfl rfl rfl (E.Runs.load rfl rfl hu3 (by first | assumption | exact E.blkc (by assumption) rfl | exact pw_cell_below L (by assumption))) ?_
                refine E.GQ.cmp rfl rfl rfl (fun _ h => (E.Runs.eql rfl rfl rfl h)) (fun h77 => ?_) (fun h77 => ?_)
                · refine E.GQ.run rfl rfl rfl (E.Runs.move rfl rfl) ?_
                  refine E.GQ.run rfl rfl rfl (E.Runs.move rfl rfl) ?_
                  refine E.GQ.run rfl rfl rfl (E.Runs.move rfl rfl) ?_
                  refine E.GQ.run rfl rfl rfl (E.Runs.indexAddrA rfl rfl rfl hu26 z35 o35 (show ((j : Nat) : Int) < l.length by omega) eAj rfl) ?_
                  refine E.GQ.run rfl rfl rfl (E.Runs.fieldAddr rfl rfl hu35 rfl (by assumption) rfl) ?_
                  refine E.GQ.run rfl rfl rfl (E.Runs.load (v := .int .i64 y.f1) rfl rfl hu3 (by rw [← E.add_onA]; exact pw_cell_below L (Y 1 _ rfl))) ?_
                  refine E.GQ.run rfl rfl rfl (E.Runs.fieldAddr rfl rfl hu35 rfl (by assumption) rfl) ?_
                  refine E.GQ.run rfl rfl rfl (E.Runs.load rfl rfl hu3 (by first | assumption | exact E.blkc (by assumption) rfl | exact pw_cell_below L (by assumption))) ?_
                  refine E.GQ.cmp rfl rfl rfl (fun _ h => (E.Runs.eql rfl rfl rfl h)) (fun h86 => ?_) (fun h86 => ?_)
                  · have huf : usedF x.f1 x.f0 y = y.f2 := by unfold usedF; rw [if_pos ⟨h77, h86⟩]
                    refine E.GQ.run rfl rfl rfl (E.Runs.pick_t rfl rfl rfl) ?_
                    refine E.GQ.doneB fun v11 lD => ?_
                    replace b3 := blk_below b3 lD
                    replace b8 := blk_below b8 lD
                    replace L := below_step L lD
                    have lD11 := lD
                    clear lD
                    refine E.QG.code ?_
                    refine E.CG.cond_t rfl ?_
                    refine E.CG.list ?_
                    refine E.GL.run rfl rfl rfl (E.Runs.move rfl rfl) ?_
                    refine E.GL.run rfl rfl rfl (E.Runs.move rfl rfl) ?_
                    refine E.GL.run rfl rfl rfl (E.Runs.move rfl rfl) ?_
                    refine E.GL.run rfl rfl rfl (E.Runs.indexAddrA rfl rfl rfl hu26 z35 o35 (show ((j : Nat) : Int) < l.length by omega) eAj rfl) ?_
                    refine E.GL.run rfl rfl rfl (E.Runs.fieldAddr rfl rfl hu35 rfl (by assumption) rfl) ?_
                    refine E.GL.run rfl rfl rfl (E.Runs.load (v := .int .i64 y.f2) rfl rfl hu3 (by rw [← E.add_onA]; exact pw_cell_below L (Y 2 _ rfl))) ?_
                    refine E.GL.run rfl rfl rfl (E.Runs.add rfl rfl rfl (IntWalk.i64_in _ (by omega))) ?_
                    refine E.GL.run rfl rfl rfl (E.Runs.assign rfl rfl) ?_
                    refine E.GL.done ?_
                    refine E.QG.block_normal ?_
                    refine E.QG.code ?_
                    refine E.CG.list ?_
                    refine E.GL.run rfl rfl rfl (E.Runs.move rfl rfl) ?_
                    refine E.GL.run rfl rfl rfl (E.Runs.add rfl rfl rfl (IntWalk.i64_in _ (by omega))) ?_
                    refine E.GL.run rfl rfl rfl (E.Runs.assign rfl rfl) ?_
                    refine E.GL.done ?_
                    exact E.QG.round (j + 1) (E.subc rfl (E.subc rfl (E.subc rfl (E.subc rfl (E.subc rfl (E.subc (by unfold usedM; rw [hst, huf]; first | rfl | (rw [Int.add_zero]; rfl) | fail) (E.subc rfl E.subn))))))) ⟨by omega, b3, b8, L⟩ (by omega)
                  · have huf : usedF x.f1 x.f0 y = 0 := by unfold usedF; rw [if_neg (fun z => h86 z.2)]
                    refine E.GQ.run rfl rfl rfl (E.Runs.pick_t rfl rfl rfl) ?_
                    refine E.GQ.doneB fun v11 lD => ?_
                    replace b3 := blk_below b3 lD
                    replace b8 := blk_below b8 lD
                    replace L := below_step L lD
                    have lD11 := lD
                    clear lD
                    refine E.QG.code ?_
                    refine E.CG.cond_f rfl ?_
                    refine E.CG.skip ?_
                    refine E.QG.block_normal ?_
                    refine E.QG.code ?_
                    refine E.CG.list ?_
                    refine E.GL.run rfl rfl rfl (E.Runs.move rfl rfl) ?_
                    refine E.GL.run rfl rfl rfl (E.Runs.add rfl rfl rfl (IntWalk.i64_in _ (by omega))) ?_
                    refine E.GL.run rfl rfl rfl (E.Runs.assign rfl rfl) ?_
                    refine E.GL.done ?_
                    exact E.QG.round (j + 1) (E.subc rfl (E.subc rfl (E.subc rfl (E.subc rfl (E.subc rfl (E.subc (by unfold usedM; rw [hst, huf]; first | rfl | (rw [Int.add_zero]; rfl) | fail) (E.subc rfl E.subn))))))) ⟨by omega, b3, b8, L⟩ (by omega)
                · have huf : usedF x.f1 x.f0 y = 0 := by unfold usedF; rw [if_neg (fun z => h77 z.1)]
                  refine E.GQ.run rfl rfl rfl (E.Runs.move rfl rfl) ?_
                  refine E.GQ.skip rfl rfl rfl ?_
                  refine E.GQ.skip rfl rfl rfl ?_
                  refine E.GQ.skip rfl rfl rfl ?_
                  refine E.GQ.skip rfl rfl rfl ?_
                  refine E.GQ.skip rfl rfl rfl ?_
                  refine E.GQ.skip rfl rfl rfl ?_
                  refine E.GQ.skip rfl rfl rfl ?_
                  refine E.GQ.skip rfl rfl rfl ?_
                  refine E.GQ.run rfl rfl rfl (E.Runs.pick_f rfl rfl rfl) ?_
                  refine E.GQ.doneB fun v11 lD => ?_
                  replace b3 := blk_below b3 lD
                  replace b8 := blk_below b8 lD
                  replace L := below_step L lD
                  have lD11 := lD
                  clear lD
                  refine E.QG.code ?_
                  refine E.CG.cond_f rfl ?_
                  refine E.CG.skip ?_
                  refine E.QG.block_normal ?_
                  refine E.QG.code ?_
                  refine E.CG.list ?_
                  refine E.GL.run rfl rfl rfl (E.Runs.move rfl rfl) ?_
                  refine E.GL.run rfl rfl rfl (E.Runs.add rfl rfl rfl (IntWalk.i64_in _ (by omega))) ?_
                  refine E.GL.run rfl rfl rfl (E.Runs.assign rfl rfl) ?_
                  refine E.GL.done ?_
                  exact E.QG.round (j + 1) (E.subc rfl (E.subc rfl (E.subc rfl (E.subc rfl (E.subc rfl (E.subc (by unfold usedM; rw [hst, huf]; first | rfl | (rw [Int.add_zero]; rfl) | fail) (E.subc rfl E.subn))))))) ⟨by omega, b3, b8, L⟩ (by omega)
              · have hji : j = i + 1 := by omega
                refine E.GL.done ?_
                refine E.QG.code ?_
                refine E.CG.cond_f rfl ?_
                refine E.CG.exit ?_
                refine E.QG.pass_exit ?_
                refine E.QG.pass_exit ?_
                refine E.QG.block_here ?_
                refine E.QG.code ?_
                refine E.CG.seq ?_
                refine E.CG.list ?_
                refine E.GL.run rfl rfl rfl (E.Runs.move rfl rfl) ?_
                refine E.GL.run rfl rfl rfl (E.Runs.fieldAddr rfl rfl hu25 rfl (by assumption) rfl) ?_
                refine E.GL.run rfl rfl rfl (E.Runs.load1 rfl rfl hu23 rfl (by first | assumption | exact E.blkc (by assumption) rfl | exact pw_cell_below L (by assumption))) ?_
                refine E.GL.run rfl rfl rfl (E.Runs.fieldAddr rfl rfl hu35 rfl (by assumption) rfl) ?_
                refine E.GL.run rfl rfl rfl (E.Runs.load rfl rfl hu3 (by first | assumption | exact E.blkc (by assumption) rfl | exact pw_cell_below L (by assumption))) ?_
                refine E.GL.run rfl rfl rfl (E.Runs.indexAddrA (i := u) rfl rfl (by rw [hu1]; rfl) hu23 z45 o45 (show (u : Int) < qs.length by omega) eQ rfl) ?_
                refine E.GL.run rfl rfl rfl (E.Runs.fieldAddr rfl rfl hu45 rfl (by assumption) rfl) ?_
                refine E.GL.run rfl rfl rfl (E.Runs.load (v := .int .i64 q.f2) rfl rfl hu3 (by rw [← E.add_onA]; exact pw_cell_below L (cQ 2 _ rfl))) ?_
                refine E.GL.cmp rfl rfl rfl (fun _ h => (E.Runs.gtr rfl rfl rfl h)) (fun h103 => ?_) (fun h103 => ?_)
                · refine E.GL.done ?_
                  refine E.QG.code ?_
                  refine E.CG.cond_t rfl ?_
                  refine E.CG.seq ?_
                  refine E.CG.list ?_
                  refine E.GL.run rfl rfl rfl (E.Runs.assign rfl rfl) ?_
                  refine E.GL.done ?_
                  refine E.QG.code ?_
                  refine E.CG.ret ?_
                  refine E.QG.block_ret ?_
                  refine E.QG.pass_ret ?_
                  refine E.QG.pass_ret ?_
                  refine E.QG.block_ret ?_
                  refine E.QG.pass_ret ?_
                  exact E.QG.result rfl rfl ⟨by rw [bool_no hb (fun k => by obtain ⟨⟨q1, q2, q3, q4, q5⟩, q6⟩ := k.mv i x hx; rw [hqu, ← hji] at q6; omega)], L⟩
                · refine E.GL.done ?_
                  refine E.QG.code ?_
                  refine E.CG.cond_f rfl ?_
                  refine E.CG.skip ?_
                  refine E.QG.block_normal ?_
                  refine E.QG.code ?_
                  refine E.CG.list ?_
                  refine E.GL.run rfl rfl rfl (E.Runs.move rfl rfl) ?_
                  refine E.GL.run rfl rfl rfl (E.Runs.add rfl rfl rfl (IntWalk.i64_in _ (by omega))) ?_
                  refine E.GL.run rfl rfl rfl (E.Runs.assign rfl rfl) ?_
                  refine E.GL.done ?_
                  exact E.QG.round (i + 1) (E.subc rfl (E.subc rfl (E.subc rfl (E.subc rfl E.subn)))) ⟨by omega, b3, L, all_more2 hmv hx ⟨hmo, by rw [← hji, hqu]; omega⟩⟩ (by omega)
      · refine E.GH.one (i := 12) (by kernel_rfl) rfl ?_
        refine E.GO.st rfl rfl rfl (E.ST.call rfl ent44 (E.evc rfl (E.evc rfl (E.evc rfl E.evn))) ((within_r x.f1 0 (qs.length - 1) false (iff_of_false Bool.false_ne_true h38) _).mono ?_))
        rintro e w38 ⟨rfl, l38⟩
        refine ⟨_, rfl, hh.trans (E.gbB l38), ?_⟩
        replace hh := hh.trans (E.gbB l38)
        replace b3 := blk_below b3 l38
        replace b8 := blk_below b8 l38
        replace L := below_step L l38
        refine E.GH.take (i := 13) rfl (by kernel_rfl) (by kernel_rfl) (by kernel_rfl) (by intro c a d v w h; cases d <;> exact h) rfl rfl rfl (fun w' hS => (E.Runs.not rfl rfl)) ?_
        refine E.GH.take (i := 14) rfl (by kernel_rfl) (by kernel_rfl) (by kernel_rfl) (by intro c a d v w h; cases d <;> exact h) rfl rfl rfl (fun w' hS => (E.Runs.pick_f rfl rfl rfl)) ?_
        refine E.GH.take (i := 15) rfl (by kernel_rfl) (by kernel_rfl) (by kernel_rfl) (by intro c a d v w h; cases d <;> exact h) rfl rfl rfl (fun w' hS => (E.Runs.move rfl rfl)) ?_
        refine E.GH.pass (i := 16) rfl (by kernel_rfl) (by kernel_rfl) (by kernel_rfl) (by intro c a d v w h; cases d <;> exact h) rfl rfl rfl ?_
        refine E.GH.pass (i := 17) rfl (by kernel_rfl) (by kernel_rfl) (by kernel_rfl) (by intro c a d v w h; cases d <;> exact h) rfl rfl rfl ?_
        refine E.GH.pass (i := 18) rfl (by kernel_rfl) (by kernel_rfl) (by kernel_rfl) (by intro c a d v w h; cases d <;> exact h) rfl rfl rfl ?_
        refine E.GH.take (i := 19) rfl (by kernel_rfl) (by kernel_rfl) (by kernel_rfl) (by intro c a d v w h; cases d <;> exact h) rfl rfl rfl (fun w' hS => (E.Runs.pick_t rfl rfl rfl)) ?_
        refine E.GH.take (i := 20) rfl (by kernel_rfl) (by kernel_rfl) (by kernel_rfl) (by intro c a d v w h; cases d <;> exact h) rfl rfl rfl (fun w' hS => (E.Runs.move rfl rfl)) ?_
        refine E.GH.pass (i := 21) rfl (by kernel_rfl) (by kernel_rfl) (by kernel_rfl) (by intro c a d v w h; cases d <;> exact h) rfl rfl rfl ?_
        refine E.GH.pass (i := 22) rfl (by kernel_rfl) (by kernel_rfl) (by kernel_rfl) (by intro c a d v w h; cases d <;> exact h) rfl rfl rfl ?_
        refine E.GH.pass (i := 23) rfl (by kernel_rfl) (by kernel_rfl) (by kernel_rfl) (by intro c a d v w h; cases d <;> exact h) rfl rfl rfl ?_
        refine E.GH.take (i := 24) rfl (by kernel_rfl) (by kernel_rfl) (by kernel_rfl) (by intro c a d v w h; cases d <;> exact h) rfl rfl rfl (fun w' hS => (E.Runs.pick_t rfl rfl rfl)) ?_
        refine E.GH.take (i := 25) rfl (by kernel_rfl) (by kernel_rfl) (by kernel_rfl) (by intro c a d v w h; cases d <;> exact h) rfl rfl rfl (fun w' hS => (E.Runs.move rfl rfl)) ?_
        refine E.GH.pass (i := 26) rfl (by kernel_rfl) (by kernel_rfl) (by kernel_rfl) (by intro c a d v w h; cases d <;> exact h) rfl rfl rfl ?_
        refine E.GH.pass (i := 27) rfl (by kernel_rfl) (by kernel_rfl) (by kernel_rfl) (by intro c a d v w h; cases d <;> exact h) rfl rfl rfl ?_
        refine E.GH.pass (i := 28) rfl (by kernel_rfl) (by kernel_rfl) (by kernel_rfl) (by intro c a d v w h; cases d <;> exact h) rfl rfl rfl ?_
        refine E.GH.pass (i := 29) rfl (by kernel_rfl) (by kernel_rfl) (by kernel_rfl) (by intro c a d v w h; cases d <;> exact h) rfl rfl rfl ?_
        refine E.GH.pass (i := 30) rfl (by kernel_rfl) (by kernel_rfl) (by kernel_rfl) (by intro c a d v w h; cases d <;> exact h) rfl rfl rfl ?_
        refine E.GH.pass (i := 31) rfl (by kernel_rfl) (by kernel_rfl) (by kernel_rfl) (by intro c a d v w h; cases d <;> exact h) rfl rfl rfl ?_
        refine E.GH.pass (i := 32) rfl (by kernel_rfl) (by kernel_rfl) (by kernel_rfl) (by intro c a d v w h; cases d <;> exact h) rfl rfl rfl ?_
        refine E.GH.pass (i := 33) rfl (by kernel_rfl) (by kernel_rfl) (by kernel_rfl) (by intro c a d v w h; cases d <;> exact h) rfl rfl rfl ?_
        refine E.GH.pass (i := 34) rfl (by kernel_rfl) (by kernel_rfl) (by kernel_rfl) (by intro c a d v w h; cases d <;> exact h) rfl rfl rfl ?_
        refine E.GH.pass (i := 35) rfl (by kernel_rfl) (by kernel_rfl) (by kernel_rfl) (by intro c a d v w h; cases d <;> exact h) rfl rfl rfl ?_
        refine E.GH.pass (i := 36) rfl (by kernel_rfl) (by kernel_rfl) (by kernel_rfl) (by intro c a d v w h; cases d <;> exact h) rfl rfl rfl ?_
        refine E.GH.pass (i := 37) rfl (by kernel_rfl) (by kernel_rfl) (by kernel_rfl) (by intro c a d v w h; cases d <;> exact h) rfl rfl rfl ?_
        refine E.GH.take (i := 38) rfl (by kernel_rfl) (by kernel_rfl) (by kernel_rfl) (by intro c a d v w h; cases d <;> exact h) rfl rfl rfl (fun w' hS => (E.Runs.pick_t rfl rfl rfl)) ?_
        refine E.GH.done (by kernel_rfl) ?_
        refine E.QG.code ?_
        refine E.CG.cond_t rfl ?_
        refine E.CG.seq ?_
        refine E.CG.list ?_
        refine E.GL.run rfl rfl rfl (E.Runs.assign rfl rfl) ?_
        refine E.GL.done ?_
        refine E.QG.code ?_
        refine E.CG.ret ?_
        refine E.QG.pass_ret ?_
        refine E.QG.block_ret ?_
        refine E.QG.pass_ret ?_
        refine E.QG.pass_ret ?_
        refine E.QG.block_ret ?_
        refine E.QG.pass_ret ?_
        exact E.QG.result rfl rfl ⟨by rw [bool_no hb (fun k => by obtain ⟨⟨q1, q2, q3, q4, q5⟩, q6⟩ := k.mv i x hx; exact h38 q2)], L⟩
    · refine E.GH.one (i := 3) (by kernel_rfl) rfl ?_
      refine E.GO.st rfl rfl rfl (E.ST.call rfl ent44 (E.evc rfl (E.evc rfl (E.evc rfl E.evn))) ((within_r x.f0 0 T false (iff_of_false Bool.false_ne_true h29) _).mono ?_))
      rintro e w29 ⟨rfl, l29⟩
      refine ⟨_, rfl, hh.trans (E.gbB l29), ?_⟩
      replace hh := hh.trans (E.gbB l29)
      replace b3 := blk_below b3 l29
      replace b8 := blk_below b8 l29
      replace L := below_step L l29
      refine E.GH.take (i := 4) rfl (by kernel_rfl) (by kernel_rfl) (by kernel_rfl) (by intro c a d v w h; cases d <;> exact h) rfl rfl rfl (fun w' hS => (E.Runs.not rfl rfl)) ?_
      refine E.GH.take (i := 5) rfl (by kernel_rfl) (by kernel_rfl) (by kernel_rfl) (by intro c a d v w h; cases d <;> exact h) rfl rfl rfl (fun w' hS => (E.Runs.move rfl rfl)) ?_
      refine E.GH.pass (i := 6) rfl (by kernel_rfl) (by kernel_rfl) (by kernel_rfl) (by intro c a d v w h; cases d <;> exact h) rfl rfl rfl ?_
      refine E.GH.pass (i := 7) rfl (by kernel_rfl) (by kernel_rfl) (by kernel_rfl) (by intro c a d v w h; cases d <;> exact h) rfl rfl rfl ?_
      refine E.GH.pass (i := 8) rfl (by kernel_rfl) (by kernel_rfl) (by kernel_rfl) (by intro c a d v w h; cases d <;> exact h) rfl rfl rfl ?_
      refine E.GH.pass (i := 9) rfl (by kernel_rfl) (by kernel_rfl) (by kernel_rfl) (by intro c a d v w h; cases d <;> exact h) rfl rfl rfl ?_
      refine E.GH.pass (i := 10) rfl (by kernel_rfl) (by kernel_rfl) (by kernel_rfl) (by intro c a d v w h; cases d <;> exact h) rfl rfl rfl ?_
      refine E.GH.pass (i := 11) rfl (by kernel_rfl) (by kernel_rfl) (by kernel_rfl) (by intro c a d v w h; cases d <;> exact h) rfl rfl rfl ?_
      refine E.GH.pass (i := 12) rfl (by kernel_rfl) (by kernel_rfl) (by kernel_rfl) (by intro c a d v w h; cases d <;> exact h) rfl rfl rfl ?_
      refine E.GH.pass (i := 13) rfl (by kernel_rfl) (by kernel_rfl) (by kernel_rfl) (by intro c a d v w h; cases d <;> exact h) rfl rfl rfl ?_
      refine E.GH.take (i := 14) rfl (by kernel_rfl) (by kernel_rfl) (by kernel_rfl) (by intro c a d v w h; cases d <;> exact h) rfl rfl rfl (fun w' hS => (E.Runs.pick_t rfl rfl rfl)) ?_
      refine E.GH.take (i := 15) rfl (by kernel_rfl) (by kernel_rfl) (by kernel_rfl) (by intro c a d v w h; cases d <;> exact h) rfl rfl rfl (fun w' hS => (E.Runs.move rfl rfl)) ?_
      refine E.GH.pass (i := 16) rfl (by kernel_rfl) (by kernel_rfl) (by kernel_rfl) (by intro c a d v w h; cases d <;> exact h) rfl rfl rfl ?_
      refine E.GH.pass (i := 17) rfl (by kernel_rfl) (by kernel_rfl) (by kernel_rfl) (by intro c a d v w h; cases d <;> exact h) rfl rfl rfl ?_
      refine E.GH.pass (i := 18) rfl (by kernel_rfl) (by kernel_rfl) (by kernel_rfl) (by intro c a d v w h; cases d <;> exact h) rfl rfl rfl ?_
      refine E.GH.take (i := 19) rfl (by kernel_rfl) (by kernel_rfl) (by kernel_rfl) (by intro c a d v w h; cases d <;> exact h) rfl rfl rfl (fun w' hS => (E.Runs.pick_t rfl rfl rfl)) ?_
      refine E.GH.take (i := 20) rfl (by kernel_rfl) (by kernel_rfl) (by kernel_rfl) (by intro c a d v w h; cases d <;> exact h) rfl rfl rfl (fun w' hS => (E.Runs.move rfl rfl)) ?_
      refine E.GH.pass (i := 21) rfl (by kernel_rfl) (by kernel_rfl) (by kernel_rfl) (by intro c a d v w h; cases d <;> exact h) rfl rfl rfl ?_
      refine E.GH.pass (i := 22) rfl (by kernel_rfl) (by kernel_rfl) (by kernel_rfl) (by intro c a d v w h; cases d <;> exact h) rfl rfl rfl ?_
      refine E.GH.pass (i := 23) rfl (by kernel_rfl) (by kernel_rfl) (by kernel_rfl) (by intro c a d v w h; cases d <;> exact h) rfl rfl rfl ?_
      refine E.GH.take (i := 24) rfl (by kernel_rfl) (by kernel_rfl) (by kernel_rfl) (by intro c a d v w h; cases d <;> exact h) rfl rfl rfl (fun w' hS => (E.Runs.pick_t rfl rfl rfl)) ?_
      refine E.GH.take (i := 25) rfl (by kernel_rfl) (by kernel_rfl) (by kernel_rfl) (by intro c a d v w h; cases d <;> exact h) rfl rfl rfl (fun w' hS => (E.Runs.move rfl rfl)) ?_
      refine E.GH.pass (i := 26) rfl (by kernel_rfl) (by kernel_rfl) (by kernel_rfl) (by intro c a d v w h; cases d <;> exact h) rfl rfl rfl ?_
      refine E.GH.pass (i := 27) rfl (by kernel_rfl) (by kernel_rfl) (by kernel_rfl) (by intro c a d v w h; cases d <;> exact h) rfl rfl rfl ?_
      refine E.GH.pass (i := 28) rfl (by kernel_rfl) (by kernel_rfl) (by kernel_rfl) (by intro c a d v w h; cases d <;> exact h) rfl rfl rfl ?_
      refine E.GH.pass (i := 29) rfl (by kernel_rfl) (by kernel_rfl) (by kernel_rfl) (by intro c a d v w h; cases d <;> exact h) rfl rfl rfl ?_
      refine E.GH.pass (i := 30) rfl (by kernel_rfl) (by kernel_rfl) (by kernel_rfl) (by intro c a d v w h; cases d <;> exact h) rfl rfl rfl ?_
      refine E.GH.pass (i := 31) rfl (by kernel_rfl) (by kernel_rfl) (by kernel_rfl) (by intro c a d v w h; cases d <;> exact h) rfl rfl rfl ?_
      refine E.GH.pass (i := 32) rfl (by kernel_rfl) (by kernel_rfl) (by kernel_rfl) (by intro c a d v w h; cases d <;> exact h) rfl rfl rfl ?_
      refine E.GH.pass (i := 33) rfl (by kernel_rfl) (by kernel_rfl) (by kernel_rfl) (by intro c a d v w h; cases d <;> exact h) rfl rfl rfl ?_
      refine E.GH.pass (i := 34) rfl (by kernel_rfl) (by kernel_rfl) (by kernel_rfl) (by intro c a d v w h; cases d <;> exact h) rfl rfl rfl ?_
      refine E.GH.pass (i := 35) rfl (by kernel_rfl) (by kernel_rfl) (by kernel_rfl) (by intro c a d v w h; cases d <;> exact h) rfl rfl rfl ?_
      refine E.GH.pass (i := 36) rfl (by kernel_rfl) (by kernel_rfl) (by kernel_rfl) (by intro c a d v w h; cases d <;> exact h) rfl rfl rfl ?_
      refine E.GH.pass (i := 37) rfl (by kernel_rfl) (by kernel_rfl) (by kernel_rfl) (by intro c a d v w h; cases d <;> exact h) rfl rfl rfl ?_
      refine E.GH.take (i := 38) rfl (by kernel_rfl) (by kernel_rfl) (by kernel_rfl) (by intro c a d v w h; cases d <;> exact h) rfl rfl rfl (fun w' hS => (E.Runs.pick_t rfl rfl rfl)) ?_
      refine E.GH.done (by kernel_rfl) ?_
      refine E.QG.code ?_
      refine E.CG.cond_t rfl ?_
      refine E.CG.seq ?_
      refine E.CG.list ?_
      refine E.GL.run rfl rfl rfl (E.Runs.assign rfl rfl) ?_
      refine E.GL.done ?_
      refine E.QG.code ?_
      refine E.CG.ret ?_
      refine E.QG.pass_ret ?_
      refine E.QG.block_ret ?_
      refine E.QG.pass_ret ?_
      refine E.QG.pass_ret ?_
      refine E.QG.block_ret ?_
      refine E.QG.pass_ret ?_
      exact E.QG.result rfl rfl ⟨by rw [bool_no hb (fun k => by obtain ⟨⟨q1, q2, q3, q4, q5⟩, q6⟩ := k.mv i x hx; exact h29 q1)], L⟩
  · have hin : MvIn qs l := mvIn_of (fun k hk x hx => (hmv k hk x hx).1) (by omega)
    refine E.GL.done ?_
    refine E.QG.code ?_
    refine E.CG.cond_f rfl ?_
    refine E.CG.exit ?_
    refine E.QG.pass_exit ?_
    refine E.QG.pass_exit ?_
    refine E.QG.block_here ?_
    refine E.QG.code ?_
    refine E.CG.seq ?_
    refine E.CG.seq ?_
    refine E.CG.list ?_
    refine E.GL.run rfl rfl rfl (E.Runs.assign rfl rfl) ?_
    refine E.GL.done ?_
    refine E.QG.code ?_
    refine E.CG.block ?_
    have s16_b3 := b3
    have s16_L := L
    refine E.CG.loop (fun (s : Nat) => [(1, .int .i64 (T : Int)), (2, .slice C l.length k), (3, .pointer (some ⟨g3, 0, none⟩)), (11, .int .i64 s)]) (fun s w' => s ≤ ps.length ∧ w'.heap[g3]? = some (.cells #[.slice A ps.length c, .slice B qs.length d] 25 (0, 0)) ∧ Below w.heap.size w w' ∧ ∀ a, a < s → ∀ m, m ≤ T → 0 ≤ thM ps qs l a m) (fun s => ps.length - s) 0 (E.subc rfl (E.subc rfl (E.subc rfl (E.subc rfl E.subn)))) ⟨Nat.zero_le _, b3, L, fun k hk => by omega⟩ ?_
    rintro s w16 ⟨hs, b3, L, hth0⟩
    refine E.CG.seq ?_
    refine E.CG.seq ?_
    refine E.CG.list ?_
    refine E.GL.run rfl rfl rfl (E.Runs.move rfl rfl) ?_
    refine E.GL.run rfl rfl rfl (E.Runs.fieldAddr rfl rfl hu25 rfl (by assumption) rfl) ?_
    refine E.GL.run rfl rfl rfl (E.Runs.load1 rfl rfl hu22 rfl (by first | assumption | exact E.blkc (by assumption) rfl | exact pw_cell_below L (by assumption))) ?_
    refine E.GL.run rfl rfl rfl (E.Runs.len rfl rfl hu22) ?_
    refine E.GL.cmp rfl rfl rfl (fun _ h => (E.Runs.lss rfl rfl rfl h)) (fun h108 => ?_) (fun h108 => ?_)
    · have hsl : s < ps.length := by omega
      obtain ⟨aP, eP, cP⟩ := int_at hP (getD_some hsl 0)
      have hpb := hok.p _ (getD_mem (z := 0) hsl)
      refine E.GL.done ?_
      refine E.QG.code ?_
      refine E.CG.cond_t rfl ?_
      refine E.CG.skip ?_
      refine E.QG.code ?_
      refine E.CG.seq ?_
      refine E.CG.block ?_
      refine E.CG.seq ?_
      refine E.CG.list ?_
      refine E.GL.run rfl rfl rfl (E.Runs.assign rfl rfl) ?_
      refine E.GL.done ?_
      refine E.QG.code ?_
      refine E.CG.block ?_
      have s19_b3 := b3
      have s19_L := L
      refine E.CG.loop (fun (m : Nat) => [(1, .int .i64 (T : Int)), (2, .slice C l.length k), (3, .pointer (some ⟨g3, 0, none⟩)), (11, .int .i64 s), (12, .int .i64 m)]) (fun m w' => m ≤ T + 1 ∧ w'.heap[g3]? = some (.cells #[.slice A ps.length c, .slice B qs.length d] 25 (0, 0)) ∧ Below w.heap.size w w' ∧ ∀ a, a < m → 0 ≤ thM ps qs l s a) (fun m => T + 1 - m) 0 (E.subc rfl (E.subc rfl (E.subc rfl (E.subc rfl (E.subc rfl E.subn))))) ⟨Nat.zero_le _, b3, L, fun k hk => by omega⟩ ?_
      rintro m w19 ⟨hm, b3, L, hth1⟩
      refine E.CG.seq ?_
      refine E.CG.seq ?_
      refine E.CG.list ?_
      refine E.GL.run rfl rfl rfl (E.Runs.move rfl rfl) ?_
      refine E.GL.run rfl rfl rfl (E.Runs.move rfl rfl) ?_
      refine E.GL.cmp rfl rfl rfl (fun _ h => (E.Runs.leq rfl rfl rfl h)) (fun h113 => ?_) (fun h113 => ?_)
      · have hmT : m ≤ T := by omega
        refine E.GL.done ?_
        refine E.QG.code ?_
        refine E.CG.cond_t rfl ?_
        refine E.CG.skip ?_
        refine E.QG.code ?_
        refine E.CG.seq ?_
        refine E.CG.block ?_
        refine E.CG.seq ?_
        refine E.CG.list ?_
        refine E.GL.run rfl rfl rfl (E.Runs.fieldAddr rfl rfl hu25 rfl (by assumption) rfl) ?_
        refine E.GL.run rfl rfl rfl (E.Runs.load1 rfl rfl hu22 rfl (by first | assumption | exact E.blkc (by assumption) rfl | exact pw_cell_below L (by assumption))) ?_
        refine E.GL.run rfl rfl rfl (E.Runs.move rfl rfl) ?_
        refine E.GL.run rfl rfl rfl (E.Runs.indexAddrA rfl rfl rfl hu22 z3 o3 (show (s : Int) < ps.length by omega) eP rfl) ?_
        refine E.GL.run rfl rfl rfl (E.Runs.load rfl rfl hu3 (pw_cell_below L cP)) ?_
        refine E.GL.run rfl rfl rfl (E.Runs.assign rfl rfl) ?_
        refine E.GL.done ?_
        refine E.QG.code ?_
        refine E.CG.seq ?_
        refine E.CG.seq ?_
        refine E.CG.list ?_
        refine E.GL.run rfl rfl rfl (E.Runs.assign rfl rfl) ?_
        refine E.GL.done ?_
        refine E.QG.code ?_
        refine E.CG.block ?_
        have s23_b3 := b3
        have s23_L := L
        refine E.CG.loop (fun (j : Nat) => [(1, .int .i64 (T : Int)), (2, .slice C l.length k), (3, .pointer (some ⟨g3, 0, none⟩)), (11, .int .i64 s), (12, .int .i64 m), (13, .int .i64 (ps.getD s 0 + sumM (thF qs s m) (l.take j))), (14, .int .i64 j)]) (fun j w' => j ≤ l.length ∧ w'.heap[g3]? = some (.cells #[.slice A ps.length c, .slice B qs.length d] 25 (0, 0)) ∧ Below w.heap.size w w') (fun j => l.length - j) 0 (E.subc rfl (E.subc rfl (E.subc rfl (E.subc rfl (E.subc rfl (E.subc (by rw [List.take_zero, sumM, Int.add_zero]; rfl) (E.subc rfl E.subn))))))) ⟨Nat.zero_le _, b3, L⟩ ?_
        rintro j w23 ⟨hj, b3, L⟩
        refine E.CG.seq ?_
        refine E.CG.seq ?_
        refine E.CG.list ?_
        refine E.GL.run rfl rfl rfl (E.Runs.move rfl rfl) ?_
        refine E.GL.run rfl rfl rfl (E.Runs.move rfl rfl) ?_
        refine E.GL.run rfl rfl rfl (E.Runs.len rfl rfl hu26) ?_
        refine E.GL.cmp rfl rfl rfl (fun _ h => (E.Runs.lss rfl rfl rfl h)) (fun h124 => ?_) (fun h124 => ?_)
        · have hjl : j < l.length := by omega
          obtain ⟨y, hy⟩ : ∃ x, l[j]? = some x := ⟨_, List.getElem?_eq_getElem (by omega)⟩
          obtain ⟨adj, eAj, Y⟩ := move_at hM hy
          have hyi := hin y (List.mem_of_getElem? hy)
          have hy1 := (hmv j (by omega) y hy).1.1
          obtain ⟨u, hu1⟩ : ∃ u : Nat, (u : Int) = y.f1 := ⟨y.f1.toNat, by omega⟩
          have hul : u < qs.length := by omega
          obtain ⟨q, hq⟩ : ∃ q, q = qs.getD u P.z45 := ⟨_, rfl⟩
          have hqu : qs.getD y.f1.toNat P.z45 = q := by rw [hq, ← hu1, Int.toNat_natCast]
          obtain ⟨aQ, eQ, cQ⟩ := pass_at hQ (show qs[u]? = some q by rw [hq]; exact getD_some hul _)
          obtain ⟨hq1, hq2, hq3, hq4, hq5, hq6, hq7, hq8, hq9⟩ := hok.q q (by rw [hq]; exact getD_mem hul)
          have hst := sumM_step (h := thF qs s m) hy
          have htb := thF_b hin s m j
          obtain ⟨fr, hfr⟩ : ∃ z : Int, z = (if q.f0 = s ∧ y.f0 ≤ m then y.f2 else 0) := ⟨_, rfl⟩
          obtain ⟨tt, htt⟩ : ∃ z : Int, z = (if q.f1 = s ∧ y.f0 + q.f3 ≤ m then y.f2 else 0) := ⟨_, rfl⟩
          have hth : thF qs s m y = tt - fr := by unfold thF; rw [hqu, hfr, htt]
          unfold inR at hy1
          refine E.GL.done ?_
          refine E.QG.code ?_
          refine E.CG.cond_t rfl ?_
          refine E.CG.skip ?_
          refine E.QG.code ?_
          refine E.CG.seq ?_
          refine E.CG.block ?_
          refine E.CG.seq ?_
          refine E.CG.heldH (none) (by kernel_rfl) fun v25 lD hh => ?_
          replace b3 := blk_below b3 lD
          replace L := below_step L lD
          clear lD
          have s_b3 := b3
          have s_L := L
          refine E.GH.take (i := 0) rfl (by kernel_rfl) (by kernel_rfl) (by kernel_rfl) (by intro c a d v w h; cases d <;> exact h) rfl rfl rfl (fun w' hS => (E.Runs.fieldAddr rfl rfl hu25 rfl (by assumption) rfl)) ?_
          refine E.GH.take (i := 1) rfl (by kernel_rfl) (by kernel_rfl) (by kernel_rfl) (by intro c a d v w h; cases d <;> exact h) rfl rfl rfl (fun w' hS => (E.Runs.load1 rfl rfl hu23 rfl (by first | exact E.keeps hS (E.blkc (by assumption) rfl) (by first | exact E.nen | exact E.nes (by assumption) | exact E.nes (Ne.symm (by assumption))) | exact pw_cell_below (below_step s_L (E.belowG hS)) (by assumption)))) ?_
          refine E.GH.take (i := 2) rfl (by kernel_rfl) (by kernel_rfl) (by kernel_rfl) (by intro c a d v w h; cases d <;> exact h) rfl rfl rfl (fun w' hS => (E.Runs.move rfl rfl)) ?_
          refine E.GH.take (i := 3) rfl (by kernel_rfl) (by kernel_rfl) (by kernel_rfl) (by intro c a d v w h; cases d <;> exact h) rfl rfl rfl (fun w' hS => (E.Runs.move rfl rfl)) ?_
          refine E.GH.take (i := 4) rfl (by kernel_rfl) (by kernel_rfl) (by kernel_rfl) (by intro c a d v w h; cases d <;> exact h) rfl rfl rfl (fun w' hS => (E.Runs.indexAddrA rfl rfl rfl hu26 z35 o35 (show ((j : Nat) : Int) < l.length by omega) eAj rfl)) ?_
          refine E.GH.take (i := 5) rfl (by kernel_rfl) (by kernel_rfl) (by kernel_rfl) (by intro c a d v w h; cases d <;> exact h) rfl rfl rfl (fun w' hS => (E.Runs.fieldAddr rfl rfl hu35 rfl (by assumption) rfl)) ?_
          refine E.GH.take (i := 6) rfl (by kernel_rfl) (by kernel_rfl) (by kernel_rfl) (by intro c a d v w h; cases d <;> exact h) rfl rfl rfl (fun w' hS => (E.Runs.load (v := .int .i64 y.f1) rfl rfl hu3 (by rw [← E.add_onA]; exact pw_cell_below (below_step s_L (E.belowG hS)) (Y 1 _ rfl)))) ?_
          refine E.GH.take (i := 7) rfl (by kernel_rfl) (by kernel_rfl) (by kernel_rfl) (by intro c a d v w h; cases d <;> exact h) rfl rfl rfl (fun w' hS => (E.Runs.indexAddrA (i := u) rfl rfl (by rw [hu1]; rfl) hu23 z45 o45 (show (u : Int) < qs.length by omega) eQ rfl)) ?_
          refine E.GH.take (i := 8) rfl (by kernel_rfl) (by kernel_rfl) (by kernel_rfl) (by intro c a d v w h; cases d <;> exact h) rfl rfl rfl (fun w' hS => (E.Runs.loads (cs := [.int .i64 q.f0, .int .i64 q.f1, .int .i64 q.f2, .int .i64 q.f3]) rfl rfl hu45 rfl info45s (fun j v hv => pw_cell_below (below_step s_L (E.belowG hS)) (cQ j v hv)))) ?_
          refine E.GH.one (i := 9) (by kernel_rfl) rfl ?_
          refine E.GO.st rfl rfl rfl (E.ST.alloc rfl info45z fun g15 w15 e15 b15 l15 => ⟨hh.trans (E.gbB l15), ?_⟩)
          have hh0 := hh
          replace hh := hh.trans (E.gbB l15)
          have h15_hh : v25.heap.size ≤ g15 := by rw [e15]; exact hh0.size
          have h15_L : w.heap.size ≤ g15 := by rw [e15]; exact L.size
          have n15_b3 : g3 ≠ g15 := by have := blk_lt b3; omega
          clear hh0
          replace b3 := blk_below b3 l15
          replace L := below_step L l15
          refine E.GH.one (i := 10) (by kernel_rfl) rfl ?_
          refine E.GO.sn rfl rfl (E.ST.storeS (off := 0) (cells := [.int .i64 q.f0, .int .i64 q.f1, .int .i64 q.f2, .int .i64 q.f3]) rfl rfl rfl b15 rfl info45s (four_one _ _ _ _) rfl fun wS25_10 c15 lS25_10 => ⟨E.gb_own hh h15_hh lS25_10, ?_⟩)
          replace hh := E.gb_own hh h15_hh lS25_10
          replace b3 := blk_grown b3 lS25_10 (E.nes (by first | assumption | exact Ne.symm (by assumption)))
          replace L := E.below_own L h15_L lS25_10
          replace b15 := c15
          clear c15
          refine E.GH.done (by kernel_rfl) ?_
          refine E.QG.code ?_
          refine E.CG.seq ?_
          refine E.CG.seq ?_
          refine E.CG.list ?_
          refine E.GL.run rfl rfl rfl (E.Runs.fieldAddr rfl rfl hu45 rfl (by assumption) rfl) ?_
          refine E.GL.run rfl rfl rfl (E.Runs.load rfl rfl hu3 (by first | assumption | exact E.blkc (by assumption) rfl | exact pw_cell_below L (by assumption))) ?_
          refine E.GL.run rfl rfl rfl (E.Runs.move rfl rfl) ?_
          refine E.GL.cmp rfl rfl rfl (fun _ h => (E.Runs.eql rfl rfl rfl h)) (fun h139 => ?_) (fun h139 => ?_)
          · refine E.GL.run rfl rfl rfl (E.Runs.move rfl rfl) ?_
            refine E.GL.run rfl rfl rfl (E.Runs.move rfl rfl) ?_
            refine E.GL.run rfl rfl rfl (E.Runs.move rfl rfl) ?_
            refine E.GL.run rfl rfl rfl (E.Runs.indexAddrA rfl rfl rfl hu26 z35 o35 (show ((j : Nat) : Int) < l.length by omega) eAj rfl) ?_
            refine E.GL.run rfl rfl rfl (E.Runs.fieldAddr rfl rfl hu35 rfl (by assumption) rfl) ?_
            refine E.GL.run rfl rfl rfl (E.Runs.load (v := .int .i64 y.f0) rfl rfl hu3 (by rw [← E.add_onA]; exact pw_cell_below L (Y 0 _ rfl))) ?_
            refine E.GL.run rfl rfl rfl (E.Runs.move rfl rfl) ?_
            refine E.GL.cmp rfl rfl rfl (fun _ h => (E.Runs.leq rfl rfl rfl h)) (fun h147 => ?_) (fun h147 => ?_)
            · rw [if_pos ⟨h139, h147⟩] at hfr
              refine E.GL.run rfl rfl rfl (E.Runs.pick_t rfl rfl rfl) ?_
              refine E.GL.done ?_
              refine E.QG.code ?_
              refine E.CG.cond_t rfl ?_
              refine E.CG.list ?_
              refine E.GL.run rfl rfl rfl (E.Runs.move rfl rfl) ?_
              refine E.GL.run rfl rfl rfl (E.Runs.move rfl rfl) ?_
              refine E.GL.run rfl rfl rfl (E.Runs.move rfl rfl) ?_
              refine E.GL.run rfl rfl rfl (E.Runs.indexAddrA rfl rfl rfl hu26 z35 o35 (show ((j : Nat) : Int) < l.length by omega) eAj rfl) ?_
              refine E.GL.run rfl rfl rfl (E.Runs.fieldAddr rfl rfl hu35 rfl (by assumption) rfl) ?_
              refine E.GL.run rfl rfl rfl (E.Runs.load (v := .int .i64 y.f2) rfl rfl hu3 (by rw [← E.add_onA]; exact pw_cell_below L (Y 2 _ rfl))) ?_
              refine E.GL.run rfl rfl rfl (E.Runs.sub rfl rfl rfl (IntWalk.i64_in _ (by omega))) ?_
              refine E.GL.run rfl rfl rfl (E.Runs.assign rfl rfl) ?_
              refine E.GL.done ?_
              refine E.QG.code ?_
              refine E.CG.seq ?_
              refine E.CG.quietF (by kernel_rfl) rfl (by kernel_rfl) (by kernel_rfl) ?_
              refine E.GQ.run rfl rfl rfl (E.Runs.fieldAddr rfl rfl hu45 rfl (by assumption) rfl) ?_
              refine E.GQ.run rfl rfl rfl (E.Runs.load rfl rfl hu3 (by first | assumption | exact E.blkc (by assumption) rfl | exact pw_cell_below L (by assumption))) ?_
              refine E.GQ.run rfl rfl rfl (E.Runs.move rfl rfl) ?_
              refine E.GQ.cmp rfl rfl rfl (fun _ h => (E.Runs.eql rfl rfl rfl h)) (fun h159 => ?_) (fun h159 => ?_)
              · refine E.GQ.run rfl rfl rfl (E.Runs.move rfl rfl) ?_
                refine E.GQ.run rfl rfl rfl (E.Runs.move rfl rfl) ?_
                refine E.GQ.run rfl rfl rfl (E.Runs.move rfl rfl) ?_
                refine E.GQ.run rfl rfl rfl (E.Runs.indexAddrA rfl rfl rfl hu26 z35 o35 (show ((j : Nat) : Int) < l.length by omega) eAj rfl) ?_
                refine E.GQ.run rfl rfl rfl (E.Runs.fieldAddr rfl rfl hu35 rfl (by assumption) rfl) ?_
                refine E.GQ.run rfl rfl rfl (E.Runs.load (v := .int .i64 y.f0) rfl rfl hu3 (by rw [← E.add_onA]; exact pw_cell_below L (Y 0 _ rfl))) ?_
                refine E.GQ.run rfl rfl rfl (E.Runs.fieldAddr rfl rfl hu45 rfl (by assumption) rfl) ?_
                refine E.GQ.run rfl rfl rfl (E.Runs.load rfl rfl hu3 (by first | assumption | exact E.blkc (by assumption) rfl | exact pw_cell_below L (by assumption))) ?_
                refine E.GQ.run rfl rfl rfl (E.Runs.add rfl rfl rfl (IntWalk.i64_in _ (by omega))) ?_
                refine E.GQ.run rfl rfl rfl (E.Runs.move rfl rfl) ?_
                refine E.GQ.cmp rfl rfl rfl (fun _ h => (E.Runs.leq rfl rfl rfl h)) (fun h170 => ?_) (fun h170 => ?_)
                · rw [if_pos ⟨h159, h170⟩] at htt
                  refine E.GQ.run rfl rfl rfl (E.Runs.pick_t rfl rfl rfl) ?_
                  refine E.GQ.doneB fun v28 lD => ?_
                  replace b3 := blk_below b3 lD
                  replace b15 := blk_below b15 lD
                  replace L := below_step L lD
                  have lD28 := lD
                  clear lD
                  refine E.QG.code ?_
                  refine E.CG.cond_t rfl ?_
                  refine E.CG.list ?_
                  refine E.GL.run rfl rfl rfl (E.Runs.move rfl rfl) ?_
                  refine E.GL.run rfl rfl rfl (E.Runs.move rfl rfl) ?_
                  refine E.GL.run rfl rfl rfl (E.Runs.move rfl rfl) ?_
                  refine E.GL.run rfl rfl rfl (E.Runs.indexAddrA rfl rfl rfl hu26 z35 o35 (show ((j : Nat) : Int) < l.length by omega) eAj rfl) ?_
                  refine E.GL.run rfl rfl rfl (E.Runs.fieldAddr rfl rfl hu35 rfl (by assumption) rfl) ?_
                  refine E.GL.run rfl rfl rfl (E.Runs.load (v := .int .i64 y.f2) rfl rfl hu3 (by rw [← E.add_onA]; exact pw_cell_below L (Y 2 _ rfl))) ?_
                  refine E.GL.run rfl rfl rfl (E.Runs.add rfl rfl rfl (IntWalk.i64_in _ (by omega))) ?_
                  refine E.GL.run rfl rfl rfl (E.Runs.assign rfl rfl) ?_
                  refine E.GL.done ?_
                  refine E.QG.block_normal ?_
                  refine E.QG.code ?_
                  refine E.CG.list ?_
                  refine E.GL.run rfl rfl rfl (E.Runs.move rfl rfl) ?_
                  refine E.GL.run rfl rfl rfl (E.Runs.add rfl rfl rfl (IntWalk.i64_in _ (by omega))) ?_
                  refine E.GL.run rfl rfl rfl (E.Runs.assign rfl rfl) ?_
                  refine E.GL.done ?_
                  exact E.QG.round (j + 1) (E.subc rfl (E.subc rfl (E.subc rfl (E.subc rfl (E.subc rfl (E.subc (by refine congrArg (fun t => some (Value.int .i64 t)) ?_; rw [hst, hth, hfr, htt]; omega) (E.subc rfl E.subn))))))) ⟨by omega, b3, L⟩ (by omega)
                · rw [if_neg (fun z => h170 z.2)] at htt
                  refine E.GQ.run rfl rfl rfl (E.Runs.pick_t rfl rfl rfl) ?_
                  refine E.GQ.doneB fun v28 lD => ?_
                  replace b3 := blk_below b3 lD
                  replace b15 := blk_below b15 lD
                  replace L := below_step L lD
                  have lD28 := lD
                  clear lD
                  refine E.QG.code ?_
                  refine E.CG.cond_f rfl ?_
                  refine E.CG.skip ?_
                  refine E.QG.block_normal ?_
                  refine E.QG.code ?_
                  refine E.CG.list ?_
                  refine E.GL.run rfl rfl rfl (E.Runs.move rfl rfl) ?_
                  refine E.GL.run rfl rfl rfl (E.Runs.add rfl rfl rfl (IntWalk.i64_in _ (by omega))) ?_
                  refine E.GL.run rfl rfl rfl (E.Runs.assign rfl rfl) ?_
                  refine E.GL.done ?_
                  exact E.QG.round (j + 1) (E.subc rfl (E.subc rfl (E.subc rfl (E.subc rfl (E.subc rfl (E.subc (by refine congrArg (fun t => some (Value.int .i64 t)) ?_; rw [hst, hth, hfr, htt]; omega) (E.subc rfl E.subn))))))) ⟨by omega, b3, L⟩ (by omega)
              · rw [if_neg (fun z => h159 z.1)] at htt
                refine E.GQ.run rfl rfl rfl (E.Runs.move rfl rfl) ?_
                refine E.GQ.skip rfl rfl rfl ?_
                refine E.GQ.skip rfl rfl rfl ?_
                refine E.GQ.skip rfl rfl rfl ?_
                refine E.GQ.skip rfl rfl rfl ?_
                refine E.GQ.skip rfl rfl rfl ?_
                refine E.GQ.skip rfl rfl rfl ?_
                refine E.GQ.skip rfl rfl rfl ?_
                refine E.GQ.skip rfl rfl rfl ?_
                refine E.GQ.skip rfl rfl rfl ?_
                refine E.GQ.skip rfl rfl rfl ?_
                refine E.GQ.run rfl rfl rfl (E.Runs.pick_f rfl rfl rfl) ?_
                refine E.GQ.doneB fun v28 lD => ?_
                replace b3 := blk_below b3 lD
                replace b15 := blk_below b15 lD
                replace L := below_step L lD
                have lD28 := lD
                clear lD
                refine E.QG.code ?_
                refine E.CG.cond_f rfl ?_
                refine E.CG.skip ?_
                refine E.QG.block_normal ?_
                refine E.QG.code ?_
                refine E.CG.list ?_
                refine E.GL.run rfl rfl rfl (E.Runs.move rfl rfl) ?_
                refine E.GL.run rfl rfl rfl (E.Runs.add rfl rfl rfl (IntWalk.i64_in _ (by omega))) ?_
                refine E.GL.run rfl rfl rfl (E.Runs.assign rfl rfl) ?_
                refine E.GL.done ?_
                exact E.QG.round (j + 1) (E.subc rfl (E.subc rfl (E.subc rfl (E.subc rfl (E.subc rfl (E.subc (by refine congrArg (fun t => some (Value.int .i64 t)) ?_; rw [hst, hth, hfr, htt]; omega) (E.subc rfl E.subn))))))) ⟨by omega, b3, L⟩ (by omega)
            · rw [if_neg (fun z => h147 z.2)] at hfr
              refine E.GL.run rfl rfl rfl (E.Runs.pick_t rfl rfl rfl) ?_
              refine E.GL.done ?_
              refine E.QG.code ?_
              refine E.CG.cond_f rfl ?_
              refine E.CG.skip ?_
              refine E.QG.code ?_
              refine E.CG.seq ?_
              refine E.CG.quietF (by kernel_rfl) rfl (by kernel_rfl) (by kernel_rfl) ?_
              refine E.GQ.run rfl rfl rfl (E.Runs.fieldAddr rfl rfl hu45 rfl (by assumption) rfl) ?_
              refine E.GQ.run rfl rfl rfl (E.Runs.load rfl rfl hu3 (by first | assumption | exact E.blkc (by assumption) rfl | exact pw_cell_below L (by assumption))) ?_
              refine E.GQ.run rfl rfl rfl (E.Runs.move rfl rfl) ?_
              refine E.GQ.cmp rfl rfl rfl (fun _ h => (E.Runs.eql rfl rfl rfl h)) (fun h159 => ?_) (fun h159 => ?_)
              · refine E.GQ.run rfl rfl rfl (E.Runs.move rfl rfl) ?_
                refine E.GQ.run rfl rfl rfl (E.Runs.move rfl rfl) ?_
                refine E.GQ.run rfl rfl rfl (E.Runs.move rfl rfl) ?_
                refine E.GQ.run rfl rfl rfl (E.Runs.indexAddrA rfl rfl rfl hu26 z35 o35 (show ((j : Nat) : Int) < l.length by omega) eAj rfl) ?_
                refine E.GQ.run rfl rfl rfl (E.Runs.fieldAddr rfl rfl hu35 rfl (by assumption) rfl) ?_
                refine E.GQ.run rfl rfl rfl (E.Runs.load (v := .int .i64 y.f0) rfl rfl hu3 (by rw [← E.add_onA]; exact pw_cell_below L (Y 0 _ rfl))) ?_
                refine E.GQ.run rfl rfl rfl (E.Runs.fieldAddr rfl rfl hu45 rfl (by assumption) rfl) ?_
                refine E.GQ.run rfl rfl rfl (E.Runs.load rfl rfl hu3 (by first | assumption | exact E.blkc (by assumption) rfl | exact pw_cell_below L (by assumption))) ?_
                refine E.GQ.run rfl rfl rfl (E.Runs.add rfl rfl rfl (IntWalk.i64_in _ (by omega))) ?_
                refine E.GQ.run rfl rfl rfl (E.Runs.move rfl rfl) ?_
                refine E.GQ.cmp rfl rfl rfl (fun _ h => (E.Runs.leq rfl rfl rfl h)) (fun h170 => ?_) (fun h170 => ?_)
                · rw [if_pos ⟨h159, h170⟩] at htt
                  refine E.GQ.run rfl rfl rfl (E.Runs.pick_t rfl rfl rfl) ?_
                  refine E.GQ.doneB fun v28 lD => ?_
                  replace b3 := blk_below b3 lD
                  replace b15 := blk_below b15 lD
                  replace L := below_step L lD
                  have lD28 := lD
                  clear lD
                  refine E.QG.code ?_
                  refine E.CG.cond_t rfl ?_
                  refine E.CG.list ?_
                  refine E.GL.run rfl rfl rfl (E.Runs.move rfl rfl) ?_
                  refine E.GL.run rfl rfl rfl (E.Runs.move rfl rfl) ?_
                  refine E.GL.run rfl rfl rfl (E.Runs.move rfl rfl) ?_
                  refine E.GL.run rfl rfl rfl (E.Runs.indexAddrA rfl rfl rfl hu26 z35 o35 (show ((j : Nat) : Int) < l.length by omega) eAj rfl) ?_
                  refine E.GL.run rfl rfl rfl (E.Runs.fieldAddr rfl rfl hu35 rfl (by assumption) rfl) ?_
                  refine E.GL.run rfl rfl rfl (E.Runs.load (v := .int .i64 y.f2) rfl rfl hu3 (by rw [← E.add_onA]; exact pw_cell_below L (Y 2 _ rfl))) ?_
                  refine E.GL.run rfl rfl rfl (E.Runs.add rfl rfl rfl (IntWalk.i64_in _ (by omega))) ?_
                  refine E.GL.run rfl rfl rfl (E.Runs.assign rfl rfl) ?_
                  refine E.GL.done ?_
                  refine E.QG.block_normal ?_
                  refine E.QG.code ?_
                  refine E.CG.list ?_
                  refine E.GL.run rfl rfl rfl (E.Runs.move rfl rfl) ?_
                  refine E.GL.run rfl rfl rfl (E.Runs.add rfl rfl rfl (IntWalk.i64_in _ (by omega))) ?_
                  refine E.GL.run rfl rfl rfl (E.Runs.assign rfl rfl) ?_
                  refine E.GL.done ?_
                  exact E.QG.round (j + 1) (E.subc rfl (E.subc rfl (E.subc rfl (E.subc rfl (E.subc rfl (E.subc (by refine congrArg (fun t => some (Value.int .i64 t)) ?_; rw [hst, hth, hfr, htt]; omega) (E.subc rfl E.subn))))))) ⟨by omega, b3, L⟩ (by omega)
                · rw [if_neg (fun z => h170 z.2)] at htt
                  refine E.GQ.run rfl rfl rfl (E.Runs.pick_t rfl rfl rfl) ?_
                  refine E.GQ.doneB fun v28 lD => ?_
                  replace b3 := blk_below b3 lD
                  replace b15 := blk_below b15 lD
                  replace L := below_step L lD
                  have lD28 := lD
                  clear lD
                  refine E.QG.code ?_
                  refine E.CG.cond_f rfl ?_
                  refine E.CG.skip ?_
                  refine E.QG.block_normal ?_
                  refine E.QG.code ?_
                  refine E.CG.list ?_
                  refine E.GL.run rfl rfl rfl (E.Runs.move rfl rfl) ?_
                  refine E.GL.run rfl rfl rfl (E.Runs.add rfl rfl rfl (IntWalk.i64_in _ (by omega))) ?_
                  refine E.GL.run rfl rfl rfl (E.Runs.assign rfl rfl) ?_
                  refine E.GL.done ?_
                  exact E.QG.round (j + 1) (E.subc rfl (E.subc rfl (E.subc rfl (E.subc rfl (E.subc rfl (E.subc (by refine congrArg (fun t => some (Value.int .i64 t)) ?_; rw [hst, hth, hfr, htt]; omega) (E.subc rfl E.subn))))))) ⟨by omega, b3, L⟩ (by omega)
              · rw [if_neg (fun z => h159 z.1)] at htt
                refine E.GQ.run rfl rfl rfl (E.Runs.move rfl rfl) ?_
                refine E.GQ.skip rfl rfl rfl ?_
                refine E.GQ.skip rfl rfl rfl ?_
                refine E.GQ.skip rfl rfl rfl ?_
                refine E.GQ.skip rfl rfl rfl ?_
                refine E.GQ.skip rfl rfl rfl ?_
                refine E.GQ.skip rfl rfl rfl ?_
                refine E.GQ.skip rfl rfl rfl ?_
                refine E.GQ.skip rfl rfl rfl ?_
                refine E.GQ.skip rfl rfl rfl ?_
                refine E.GQ.skip rfl rfl rfl ?_
                refine E.GQ.run rfl rfl rfl (E.Runs.pick_f rfl rfl rfl) ?_
                refine E.GQ.doneB fun v28 lD => ?_
                replace b3 := blk_below b3 lD
                replace b15 := blk_below b15 lD
                replace L := below_step L lD
                have lD28 := lD
                clear lD
                refine E.QG.code ?_
                refine E.CG.cond_f rfl ?_
                refine E.CG.skip ?_
                refine E.QG.block_normal ?_
                refine E.QG.code ?_
                refine E.CG.list ?_
                refine E.GL.run rfl rfl rfl (E.Runs.move rfl rfl) ?_
                refine E.GL.run rfl rfl rfl (E.Runs.add rfl rfl rfl (IntWalk.i64_in _ (by omega))) ?_
                refine E.GL.run rfl rfl rfl (E.Runs.assign rfl rfl) ?_
                refine E.GL.done ?_
                exact E.QG.round (j + 1) (E.subc rfl (E.subc rfl (E.subc rfl (E.subc rfl (E.subc rfl (E.subc (by refine congrArg (fun t => some (Value.int .i64 t)) ?_; rw [hst, hth, hfr, htt]; omega) (E.subc rfl E.subn))))))) ⟨by omega, b3, L⟩ (by omega)
          · rw [if_neg (fun z => h139 z.1)] at hfr
            refine E.GL.run rfl rfl rfl (E.Runs.move rfl rfl) ?_
            refine E.GL.skip rfl rfl rfl ?_
            refine E.GL.skip rfl rfl rfl ?_
            refine E.GL.skip rfl rfl rfl ?_
            refine E.GL.skip rfl rfl rfl ?_
            refine E.GL.skip rfl rfl rfl ?_
            refine E.GL.skip rfl rfl rfl ?_
            refine E.GL.skip rfl rfl rfl ?_
            refine E.GL.run rfl rfl rfl (E.Runs.pick_f rfl rfl rfl) ?_
            refine E.GL.done ?_
            refine E.QG.code ?_
            refine E.CG.cond_f rfl ?_
            refine E.CG.skip ?_
            refine E.QG.code ?_
            refine E.CG.seq ?_
            refine E.CG.quietF (by kernel_rfl) rfl (by kernel_rfl) (by kernel_rfl) ?_
            refine E.GQ.run rfl rfl rfl (E.Runs.fieldAddr rfl rfl hu45 rfl (by assumption) rfl) ?_
            refine E.GQ.run rfl rfl rfl (E.Runs.load rfl rfl hu3 (by first | assumption | exact E.blkc (by assumption) rfl | exact pw_cell_below L (by assumption))) ?_
            refine E.GQ.run rfl rfl rfl (E.Runs.move rfl rfl) ?_
            refine E.GQ.cmp rfl rfl rfl (fun _ h => (E.Runs.eql rfl rfl rfl h)) (fun h159 => ?_) (fun h159 => ?_)
            · refine E.GQ.run rfl rfl rfl (E.Runs.move rfl rfl) ?_
              refine E.GQ.run rfl rfl rfl (E.Runs.move rfl rfl) ?_
              refine E.GQ.run rfl rfl rfl (E.Runs.move rfl rfl) ?_
              refine E.GQ.run rfl rfl rfl (E.Runs.indexAddrA rfl rfl rfl hu26 z35 o35 (show ((j : Nat) : Int) < l.length by omega) eAj rfl) ?_
              refine E.GQ.run rfl rfl rfl (E.Runs.fieldAddr rfl rfl hu35 rfl (by assumption) rfl) ?_
              refine E.GQ.run rfl rfl rfl (E.Runs.load (v := .int .i64 y.f0) rfl rfl hu3 (by rw [← E.add_onA]; exact pw_cell_below L (Y 0 _ rfl))) ?_
              refine E.GQ.run rfl rfl rfl (E.Runs.fieldAddr rfl rfl hu45 rfl (by assumption) rfl) ?_
              refine E.GQ.run rfl rfl rfl (E.Runs.load rfl rfl hu3 (by first | assumption | exact E.blkc (by assumption) rfl | exact pw_cell_below L (by assumption))) ?_
              refine E.GQ.run rfl rfl rfl (E.Runs.add rfl rfl rfl (IntWalk.i64_in _ (by omega))) ?_
              refine E.GQ.run rfl rfl rfl (E.Runs.move rfl rfl) ?_
              refine E.GQ.cmp rfl rfl rfl (fun _ h => (E.Runs.leq rfl rfl rfl h)) (fun h170 => ?_) (fun h170 => ?_)
              · rw [if_pos ⟨h159, h170⟩] at htt
                refine E.GQ.run rfl rfl rfl (E.Runs.pick_t rfl rfl rfl) ?_
                refine E.GQ.doneB fun v28 lD => ?_
                replace b3 := blk_below b3 lD
                replace b15 := blk_below b15 lD
                replace L := below_step L lD
                have lD28 := lD
                clear lD
                refine E.QG.code ?_
                refine E.CG.cond_t rfl ?_
                refine E.CG.list ?_
                refine E.GL.run rfl rfl rfl (E.Runs.move rfl rfl) ?_
                refine E.GL.run rfl rfl rfl (E.Runs.move rfl rfl) ?_
                refine E.GL.run rfl rfl rfl (E.Runs.move rfl rfl) ?_
                refine E.GL.run rfl rfl rfl (E.Runs.indexAddrA rfl rfl rfl hu26 z35 o35 (show ((j : Nat) : Int) < l.length by omega) eAj rfl) ?_
                refine E.GL.run rfl rfl rfl (E.Runs.fieldAddr rfl rfl hu35 rfl (by assumption) rfl) ?_
                refine E.GL.run rfl rfl rfl (E.Runs.load (v := .int .i64 y.f2) rfl rfl hu3 (by rw [← E.add_onA]; exact pw_cell_below L (Y 2 _ rfl))) ?_
                refine E.GL.run rfl rfl rfl (E.Runs.add rfl rfl rfl (IntWalk.i64_in _ (by omega))) ?_
                refine E.GL.run rfl rfl rfl (E.Runs.assign rfl rfl) ?_
                refine E.GL.done ?_
                refine E.QG.block_normal ?_
                refine E.QG.code ?_
                refine E.CG.list ?_
                refine E.GL.run rfl rfl rfl (E.Runs.move rfl rfl) ?_
                refine E.GL.run rfl rfl rfl (E.Runs.add rfl rfl rfl (IntWalk.i64_in _ (by omega))) ?_
                refine E.GL.run rfl rfl rfl (E.Runs.assign rfl rfl) ?_
                refine E.GL.done ?_
                exact E.QG.round (j + 1) (E.subc rfl (E.subc rfl (E.subc rfl (E.subc rfl (E.subc rfl (E.subc (by refine congrArg (fun t => some (Value.int .i64 t)) ?_; rw [hst, hth, hfr, htt]; omega) (E.subc rfl E.subn))))))) ⟨by omega, b3, L⟩ (by omega)
              · rw [if_neg (fun z => h170 z.2)] at htt
                refine E.GQ.run rfl rfl rfl (E.Runs.pick_t rfl rfl rfl) ?_
                refine E.GQ.doneB fun v28 lD => ?_
                replace b3 := blk_below b3 lD
                replace b15 := blk_below b15 lD
                replace L := below_step L lD
                have lD28 := lD
                clear lD
                refine E.QG.code ?_
                refine E.CG.cond_f rfl ?_
                refine E.CG.skip ?_
                refine E.QG.block_normal ?_
                refine E.QG.code ?_
                refine E.CG.list ?_
                refine E.GL.run rfl rfl rfl (E.Runs.move rfl rfl) ?_
                refine E.GL.run rfl rfl rfl (E.Runs.add rfl rfl rfl (IntWalk.i64_in _ (by omega))) ?_
                refine E.GL.run rfl rfl rfl (E.Runs.assign rfl rfl) ?_
                refine E.GL.done ?_
                exact E.QG.round (j + 1) (E.subc rfl (E.subc rfl (E.subc rfl (E.subc rfl (E.subc rfl (E.subc (by refine congrArg (fun t => some (Value.int .i64 t)) ?_; rw [hst, hth, hfr, htt]; omega) (E.subc rfl E.subn))))))) ⟨by omega, b3, L⟩ (by omega)
            · rw [if_neg (fun z => h159 z.1)] at htt
              refine E.GQ.run rfl rfl rfl (E.Runs.move rfl rfl) ?_
              refine E.GQ.skip rfl rfl rfl ?_
              refine E.GQ.skip rfl rfl rfl ?_
              refine E.GQ.skip rfl rfl rfl ?_
              refine E.GQ.skip rfl rfl rfl ?_
              refine E.GQ.skip rfl rfl rfl ?_
              refine E.GQ.skip rfl rfl rfl ?_
              refine E.GQ.skip rfl rfl rfl ?_
              refine E.GQ.skip rfl rfl rfl ?_
              refine E.GQ.skip rfl rfl rfl ?_
              refine E.GQ.skip rfl rfl rfl ?_
              refine E.GQ.run rfl rfl rfl (E.Runs.pick_f rfl rfl rfl) ?_
              refine E.GQ.doneB fun v28 lD => ?_
              replace b3 := blk_below b3 lD
              replace b15 := blk_below b15 lD
              replace L := below_step L lD
              have lD28 := lD
              clear lD
              refine E.QG.code ?_
              refine E.CG.cond_f rfl ?_
              refine E.CG.skip ?_
              refine E.QG.block_normal ?_
              refine E.QG.code ?_
              refine E.CG.list ?_
              refine E.GL.run rfl rfl rfl (E.Runs.move rfl rfl) ?_
              refine E.GL.run rfl rfl rfl (E.Runs.add rfl rfl rfl (IntWalk.i64_in _ (by omega))) ?_
              refine E.GL.run rfl rfl rfl (E.Runs.assign rfl rfl) ?_
              refine E.GL.done ?_
              exact E.QG.round (j + 1) (E.subc rfl (E.subc rfl (E.subc rfl (E.subc rfl (E.subc rfl (E.subc (by refine congrArg (fun t => some (Value.int .i64 t)) ?_; rw [hst, hth, hfr, htt]; omega) (E.subc rfl E.subn))))))) ⟨by omega, b3, L⟩ (by omega)
        · have hjl : l.take j = l := List.take_of_length_le (by omega)
          have htb := thF_b hin s m j
          rw [hjl] at htb
          refine E.GL.done ?_
          refine E.QG.code ?_
          refine E.CG.cond_f rfl ?_
          refine E.CG.exit ?_
          refine E.QG.pass_exit ?_
          refine E.QG.pass_exit ?_
          refine E.QG.block_here ?_
          refine E.QG.code ?_
          refine E.CG.seq ?_
          refine E.CG.list ?_
          refine E.GL.run rfl rfl rfl (E.Runs.move rfl rfl) ?_
          refine E.GL.cmp rfl rfl rfl (fun _ h => (E.Runs.lss rfl rfl rfl h)) (fun h180 => ?_) (fun h180 => ?_)
          · refine E.GL.done ?_
            refine E.QG.code ?_
            refine E.CG.cond_t rfl ?_
            refine E.CG.seq ?_
            refine E.CG.list ?_
            refine E.GL.run rfl rfl rfl (E.Runs.assign rfl rfl) ?_
            refine E.GL.done ?_
            refine E.QG.code ?_
            refine E.CG.ret ?_
            refine E.QG.block_ret ?_
            refine E.QG.pass_ret ?_
            refine E.QG.pass_ret ?_
            refine E.QG.block_ret ?_
            refine E.QG.block_ret ?_
            refine E.QG.pass_ret ?_
            refine E.QG.pass_ret ?_
            refine E.QG.block_ret ?_
            refine E.QG.pass_ret ?_
            exact E.QG.result rfl rfl ⟨by rw [bool_no hb (fun k => by have := k.th s m hsl hmT; unfold thM at this; rw [hjl] at h180; omega)], L⟩
          · refine E.GL.done ?_
            refine E.QG.code ?_
            refine E.CG.cond_f rfl ?_
            refine E.CG.skip ?_
            refine E.QG.block_normal ?_
            refine E.QG.code ?_
            refine E.CG.list ?_
            refine E.GL.run rfl rfl rfl (E.Runs.move rfl rfl) ?_
            refine E.GL.run rfl rfl rfl (E.Runs.add rfl rfl rfl (IntWalk.i64_in _ (by omega))) ?_
            refine E.GL.run rfl rfl rfl (E.Runs.assign rfl rfl) ?_
            refine E.GL.done ?_
            exact E.QG.round (m + 1) (E.subc rfl (E.subc rfl (E.subc rfl (E.subc rfl (E.subc rfl E.subn))))) ⟨by omega, b3, L, lt_succ_all hth1 (by unfold thM; rw [← hjl]; omega)⟩ (by omega)
      · refine E.GL.done ?_
        refine E.QG.code ?_
        refine E.CG.cond_f rfl ?_
        refine E.CG.exit ?_
        refine E.QG.pass_exit ?_
        refine E.QG.pass_exit ?_
        refine E.QG.block_here ?_
        refine E.QG.block_normal ?_
        refine E.QG.code ?_
        refine E.CG.list ?_
        refine E.GL.run rfl rfl rfl (E.Runs.move rfl rfl) ?_
        refine E.GL.run rfl rfl rfl (E.Runs.add rfl rfl rfl (IntWalk.i64_in _ (by omega))) ?_
        refine E.GL.run rfl rfl rfl (E.Runs.assign rfl rfl) ?_
        refine E.GL.done ?_
        exact E.QG.round (s + 1) (E.subc rfl (E.subc rfl (E.subc rfl (E.subc rfl E.subn)))) ⟨by omega, b3, L, lt_succ_all hth0 (fun a ha => hth1 a (by omega))⟩ (by omega)
    · refine E.GL.done ?_
      refine E.QG.code ?_
      refine E.CG.cond_f rfl ?_
      refine E.CG.exit ?_
      refine E.QG.pass_exit ?_
      refine E.QG.pass_exit ?_
      refine E.QG.block_here ?_
      refine E.QG.code ?_
      refine E.CG.seq ?_
      refine E.CG.list ?_
      refine E.GL.run rfl rfl rfl (E.Runs.assign rfl rfl) ?_
      refine E.GL.done ?_
      refine E.QG.code ?_
      refine E.CG.ret ?_
      exact E.QG.result rfl rfl ⟨by rw [hb.mpr ⟨fun a x hx => hmv a (by have := (List.getElem?_eq_some_iff.1 hx).1; omega) x hx, fun a m ha hm => hth0 a (by omega) m hm⟩], L⟩

end Go.Proofs.Ytmnjlnkfihklgaa.T
namespace Go.Proofs.Ytmnjlnkfihklgaa.T
open Go.RowKit Go.Proofs.YtmnjlnkfihklgaaW.PrintWords Go.Proofs.YtmnjlnkfihklgaaW.PrintMore
open Go.Proofs.Ytmnjlnkfihklgaa.P
set_option linter.unusedVariables false
set_option linter.unusedSimpArgs false

/-- Hours as a function of the room. -/
def hrF (hs : List Int) (r : Nat) : Nat := (hs.getD r 0).toNat
def bF (qs : List S45) (T : Nat) (hs : List Int) (i k : Nat) : Int := if hrF hs (qs.getD i P.z45).f0.toNat ≤ k ∧ ((qs.getD i P.z45).f1 = -1 ∨ k + (qs.getD i P.z45).f3.toNat < hrF hs (qs.getD i P.z45).f1.toNat) ∧ k + (qs.getD i P.z45).f3.toNat < T + 1 then (qs.getD i P.z45).f2 else 0
theorem sumN_stop {F : Nat → Int} {n : Nat} (h : ∀ k, n ≤ k → F k = 0) : ∀ m, n ≤ m → sumN F m = sumN F n
  | 0, hm => by rw [show n = 0 by omega]
  | m + 1, hm => by
    by_cases e : n = m + 1
    · rw [e]
    · rw [sumN, sumN_stop h m (by omega), h m (by omega), Int.add_zero]
def bQ (qs : List S45) (T : Nat) (hs : List Int) (i : Nat) : Int := sumN (bF qs T hs i) (T + 1 - (qs.getD i P.z45).f3.toNat)
def bR (ps hs : List Int) (n : Nat) : Int := sumN (fun r => if 0 < hrF hs r then ps.getD r 0 else 0) n
theorem bound_is (ps : List Int) (qs : List S45) (T : Nat) (hs : List Int) : boundU ps qs T (hrF hs) = bR ps hs ps.length + sumN (bQ qs T hs) qs.length := by
  unfold boundU bR sumQ
  congr 1
  refine sumN_congr fun i _ => sumN_congr fun k hk => ?_
  unfold bF
  dsimp only
  by_cases q : hrF hs (qs.getD i P.z45).f0.toNat ≤ k ∧ ((qs.getD i P.z45).f1 = -1 ∨ k + (qs.getD i P.z45).f3.toNat < hrF hs (qs.getD i P.z45).f1.toNat)
  · rw [if_pos q, if_pos ⟨q.1, q.2, by omega⟩]
  · rw [if_neg q, if_neg (fun z => q ⟨z.1, z.2.1⟩)]
theorem sumN_b {F : Nat → Int} {b : Int} (h : ∀ k, 0 ≤ F k ∧ F k ≤ b) : ∀ n : Nat, 0 ≤ sumN F n ∧ sumN F n ≤ b * n
  | 0 => by simp [sumN]
  | n + 1 => by
    have h1 := sumN_b h n
    have h2 := h n
    have h3 : b * ((n + 1 : Nat) : Int) = b * n + b := by push_cast; rw [Int.mul_add, Int.mul_one]
    rw [h3]
    simp only [sumN]
    omega
theorem bF_b {ps : List Int} {qs : List S45} (h : HOk ps qs) (T : Nat) (hs : List Int) {i : Nat} (hi : i < qs.length) (k : Nat) : 0 ≤ bF qs T hs i k ∧ bF qs T hs i k ≤ 20 := by
  obtain ⟨h1, h2, h3, h4, h5, h6, h7, h8, h9⟩ := h.q _ (getD_mem (z := P.z45) hi)
  unfold bF
  split <;> omega
theorem bQ_b {ps : List Int} {qs : List S45} (h : HOk ps qs) {T : Nat} (hT : T ≤ 60) (hs : List Int) (i : Nat) : i < qs.length → 0 ≤ bQ qs T hs i ∧ bQ qs T hs i ≤ 1220 := fun hi => by
  have := sumN_b (bF_b h T hs hi) (T + 1 - (qs.getD i P.z45).f3.toNat)
  unfold bQ
  omega
theorem bQs_b {ps : List Int} {qs : List S45} (h : HOk ps qs) {T : Nat} (hT : T ≤ 60) (hs : List Int) : ∀ i, i ≤ qs.length → 0 ≤ sumN (bQ qs T hs) i ∧ sumN (bQ qs T hs) i ≤ 1220 * i
  | 0, _ => by simp [sumN]
  | i + 1, hi => by
    have h1 := bQs_b h hT hs i (by omega)
    have h2 := bQ_b h hT hs i (by omega)
    simp only [sumN]
    push_cast
    omega
theorem bR_yes {ps hs : List Int} {n : Nat} (h : hs.getD n 0 > 0) : bR ps hs (n + 1) = bR ps hs n + ps.getD n 0 := by
  have e : bR ps hs (n + 1) = bR ps hs n + (if 0 < hrF hs n then ps.getD n 0 else 0) := rfl
  rw [e, if_pos (by unfold hrF; omega)]
theorem bR_no {ps hs : List Int} {n : Nat} (h : ¬ hs.getD n 0 > 0) : bR ps hs (n + 1) = bR ps hs n := by
  have e : bR ps hs (n + 1) = bR ps hs n + (if 0 < hrF hs n then ps.getD n 0 else 0) := rfl
  rw [e, if_neg (by unfold hrF; omega), Int.add_zero]
theorem bR_b {ps hs : List Int} (h : PsOk ps) : ∀ n, n ≤ ps.length → 0 ≤ bR ps hs n ∧ bR ps hs n ≤ 99 * n
  | 0, _ => by simp [bR, sumN]
  | n + 1, hn => by
    have h1 := bR_b (hs := hs) h n (by omega)
    have h2 := h _ (getD_mem (z := 0) (show n < ps.length by omega))
    have e : bR ps hs (n + 1) = bR ps hs n + (if 0 < hrF hs n then ps.getD n 0 else 0) := rfl
    rw [e]
    push_cast
    split <;> omega
set_option maxRecDepth 100000 in
set_option maxHeartbeats 8000000 in

theorem bound_calls (ps : List Int) (qs : List S45) (A B C : Option Addr) (c d k : Nat) (T : Nat) (hs : List Int) (hok : HOk ps qs) (hh : HrsOk ps.length T hs) (w : World) (hP : Kd.C kI w A ps.length ps) (hQ : Kd.C k45 w B qs.length qs) (hH : Kd.C kI w C hs.length hs) (hT : T ≤ 60) :
    Calls Try.prog 36 #[hv ps qs A B c d, .int .i64 (T : Int), .slice C hs.length k] w fun e w' => e = .returned (.int .i64 (boundU ps qs T (hrF hs))) ∧ Below w.heap.size w w' := by
  have hu3 := Try.underlying3
  have hu22 := Try.underlying22
  have hu23 := Try.underlying23
  have hu25 := Try.underlying25
  have hu45 := Try.underlying45
  obtain ⟨z3, o3⟩ := info_some info3s (by decide)
  obtain ⟨z22, o22⟩ := info_some info22s (by decide)
  obtain ⟨z23, o23⟩ := info_some info23s (by decide)
  obtain ⟨z45, o45⟩ := info_some info45s (by decide)
  have hr6 := hok.r6
  have hq12 := hok.q12
  obtain ⟨hh1, hh2⟩ := hh
  refine E.enter (N := 75) Try.func36 rfl Try.ntmps36 (args := [hv ps qs A B c d, .int .i64 (T : Int), .slice C hs.length k]) (by simp) ?_
  have L := Below.refl w.heap.size w
  refine E.CG.seq ?_
  refine E.CG.list ?_
  refine E.GL.st rfl rfl rfl (E.ST.box rfl rfl fun g3 w3 e3 b3 l3 => ?_)
  have h3_L : w.heap.size ≤ g3 := by rw [e3]; exact L.size
  replace L := below_step L l3
  refine E.GL.run rfl rfl rfl (E.Runs.assign rfl rfl) ?_
  refine E.GL.done ?_
  refine E.QG.code ?_
  refine E.CG.seq ?_
  refine E.CG.list ?_
  refine E.GL.run rfl rfl rfl (E.Runs.assign rfl rfl) ?_
  refine E.GL.done ?_
  refine E.QG.code ?_
  refine E.CG.seq ?_
  refine E.CG.seq ?_
  refine E.CG.list ?_
  refine E.GL.run rfl rfl rfl (E.Runs.assign rfl rfl) ?_
  refine E.GL.done ?_
  refine E.QG.code ?_
  refine E.CG.block ?_
  have s3_b3 := b3
  have s3_L := L
  refine E.CG.loop (fun (r : Nat) => [(1, .int .i64 (T : Int)), (2, .slice C hs.length k), (3, .pointer (some ⟨g3, 0, none⟩)), (7, .int .i64 (bR ps hs r)), (8, .int .i64 r)]) (fun r w' => r ≤ hs.length ∧ w'.heap[g3]? = some (.cells #[.slice A ps.length c, .slice B qs.length d] 25 (0, 0)) ∧ Below w.heap.size w w') (fun r => hs.length - r) 0 (E.subc rfl (E.subc rfl (E.subc rfl (E.subc rfl (E.subc rfl E.subn))))) ⟨Nat.zero_le _, b3, L⟩ ?_
  rintro r w3 ⟨hr, b3, L⟩
  refine E.CG.seq ?_
  refine E.CG.seq ?_
  refine E.CG.list ?_
  refine E.GL.run rfl rfl rfl (E.Runs.move rfl rfl) ?_
  refine E.GL.run rfl rfl rfl (E.Runs.move rfl rfl) ?_
  refine E.GL.run rfl rfl rfl (E.Runs.len rfl rfl hu22) ?_
  refine E.GL.cmp rfl rfl rfl (fun _ h => (E.Runs.lss rfl rfl rfl h)) (fun h15 => ?_) (fun h15 => ?_)
  · have hrl : r < hs.length := by omega
    obtain ⟨aHr, eHr, cHr⟩ := int_at hH (getD_some hrl 0)
    obtain ⟨aP, eP, cP⟩ := int_at hP (getD_some (show r < ps.length by omega) 0)
    have hbr := bR_b (hs := hs) hok.p r (by omega)
    have hpb := hok.p _ (getD_mem (z := 0) (show r < ps.length by omega))
    refine E.GL.done ?_
    refine E.QG.code ?_
    refine E.CG.cond_t rfl ?_
    refine E.CG.skip ?_
    refine E.QG.code ?_
    refine E.CG.seq ?_
    refine E.CG.block ?_
    refine E.CG.seq ?_
    refine E.CG.list ?_
    refine E.GL.run rfl rfl rfl (E.Runs.move rfl rfl) ?_
    refine E.GL.run rfl rfl rfl (E.Runs.move rfl rfl) ?_
    refine E.GL.run rfl rfl rfl (E.Runs.indexAddrA rfl rfl rfl hu22 z3 o3 (show (r : Int) < hs.length by omega) eHr rfl) ?_
    refine E.GL.run rfl rfl rfl (E.Runs.load rfl rfl hu3 (pw_cell_below L cHr)) ?_
    refine E.GL.cmp rfl rfl rfl (fun _ h => (E.Runs.gtr rfl rfl rfl h)) (fun h22 => ?_) (fun h22 => ?_)
    · refine E.GL.done ?_
      refine E.QG.code ?_
      refine E.CG.cond_t rfl ?_
      refine E.CG.list ?_
      refine E.GL.run rfl rfl rfl (E.Runs.move rfl rfl) ?_
      refine E.GL.run rfl rfl rfl (E.Runs.fieldAddr rfl rfl hu25 rfl (by assumption) rfl) ?_
      refine E.GL.run rfl rfl rfl (E.Runs.load1 rfl rfl hu22 rfl (by first | assumption | exact E.blkc (by assumption) rfl | exact pw_cell_below L (by assumption))) ?_
      refine E.GL.run rfl rfl rfl (E.Runs.move rfl rfl) ?_
      refine E.GL.run rfl rfl rfl (E.Runs.indexAddrA rfl rfl rfl hu22 z3 o3 (show (r : Int) < ps.length by omega) eP rfl) ?_
      refine E.GL.run rfl rfl rfl (E.Runs.load rfl rfl hu3 (pw_cell_below L cP)) ?_
      refine E.GL.run rfl rfl rfl (E.Runs.add rfl rfl rfl (IntWalk.i64_in _ (by omega))) ?_
      refine E.GL.run rfl rfl rfl (E.Runs.assign rfl rfl) ?_
      refine E.GL.done ?_
      refine E.QG.block_normal ?_
      refine E.QG.code ?_
      refine E.CG.list ?_
      refine E.GL.run rfl rfl rfl (E.Runs.move rfl rfl) ?_
      refine E.GL.run rfl rfl rfl (E.Runs.add rfl rfl rfl (IntWalk.i64_in _ (by omega))) ?_
      refine E.GL.run rfl rfl rfl (E.Runs.assign rfl rfl) ?_
      refine E.GL.done ?_
      exact E.QG.round (r + 1) (E.subc rfl (E.subc rfl (E.subc rfl (E.subc (by first | (rw [bR_yes h22]; rfl) | (rw [bR_no h22]; rfl) | fail) (E.subc rfl E.subn))))) ⟨by omega, b3, L⟩ (by omega)
    · refine E.GL.done ?_
      refine E.QG.code ?_
      refine E.CG.cond_f rfl ?_
      refine E.CG.skip ?_
      refine E.QG.block_normal ?_
      refine E.QG.code ?_
      refine E.CG.list ?_
      refine E.GL.run rfl rfl rfl (E.Runs.move rfl rfl) ?_
      refine E.GL.run rfl rfl rfl (E.Runs.add rfl rfl rfl (IntWalk.i64_in _ (by omega))) ?_
      refine E.GL.run rfl rfl rfl (E.Runs.assign rfl rfl) ?_
      refine E.GL.done ?_
      exact E.QG.round (r + 1) (E.subc rfl (E.subc rfl (E.subc rfl (E.subc (by first | (rw [bR_yes h22]; rfl) | (rw [bR_no h22]; rfl) | fail) (E.subc rfl E.subn))))) ⟨by omega, b3, L⟩ (by omega)
  · have hre : r = ps.length := by omega
    have hbr := bR_b (hs := hs) hok.p ps.length (Nat.le_refl _)
    refine E.GL.done ?_
    refine E.QG.code ?_
    refine E.CG.cond_f rfl ?_
    refine E.CG.exit ?_
    refine E.QG.pass_exit ?_
    refine E.QG.pass_exit ?_
    refine E.QG.block_here ?_
    refine E.QG.code ?_
    refine E.CG.seq ?_
    refine E.CG.seq ?_
    refine E.CG.list ?_
    refine E.GL.run rfl rfl rfl (E.Runs.assign rfl rfl) ?_
    refine E.GL.done ?_
    refine E.QG.code ?_
    refine E.CG.block ?_
    have s8_b3 := b3
    have s8_L := L
    refine E.CG.loop (fun (i : Nat) => [(1, .int .i64 (T : Int)), (2, .slice C hs.length k), (3, .pointer (some ⟨g3, 0, none⟩)), (7, .int .i64 (bR ps hs ps.length + sumN (bQ qs T hs) i)), (9, .int .i64 i)]) (fun i w' => i ≤ qs.length ∧ w'.heap[g3]? = some (.cells #[.slice A ps.length c, .slice B qs.length d] 25 (0, 0)) ∧ Below w.heap.size w w') (fun i => qs.length - i) 0 (E.subc rfl (E.subc rfl (E.subc rfl (E.subc (by rw [show sumN (bQ qs T hs) 0 = 0 from rfl, Int.add_zero, ← hre]; rfl) (E.subc rfl E.subn))))) ⟨Nat.zero_le _, b3, L⟩ ?_
    rintro i w8 ⟨hi, b3, L⟩
    refine E.CG.seq ?_
    refine E.CG.seq ?_
    refine E.CG.list ?_
    refine E.GL.run rfl rfl rfl (E.Runs.move rfl rfl) ?_
    refine E.GL.run rfl rfl rfl (E.Runs.fieldAddr rfl rfl hu25 rfl (by assumption) rfl) ?_
    refine E.GL.run rfl rfl rfl (E.Runs.load1 rfl rfl hu23 rfl (by first | assumption | exact E.blkc (by assumption) rfl | exact pw_cell_below L (by assumption))) ?_
    refine E.GL.run rfl rfl rfl (E.Runs.len rfl rfl hu23) ?_
    refine E.GL.cmp rfl rfl rfl (fun _ h => (E.Runs.lss rfl rfl rfl h)) (fun h34 => ?_) (fun h34 => ?_)
    · have hil : i < qs.length := by omega
      obtain ⟨q, hq⟩ : ∃ q, q = qs.getD i P.z45 := ⟨_, rfl⟩
      obtain ⟨aQ, eQ, cQ⟩ := pass_at hQ (show qs[i]? = some q by rw [hq]; exact getD_some hil _)
      obtain ⟨hq1, hq2, hq3, hq4, hq5, hq6, hq7, hq8, hq9⟩ := hok.q q (by rw [hq]; exact getD_mem hil)
      obtain ⟨u, hu1⟩ : ∃ u : Nat, (u : Int) = q.f0 := ⟨q.f0.toNat, by omega⟩
      obtain ⟨aHu, eHu, cHu⟩ := int_at hH (getD_some (show u < hs.length by omega) 0)
      have hhu := hh1 _ (getD_mem (z := 0) (show u < hs.length by omega))
      unfold inR at hhu
      have hvu : ((hrF hs u : Nat) : Int) = hs.getD u 0 := by unfold hrF; rw [Int.toNat_of_nonneg hhu.1]
      have hbs := bQs_b hok hT hs i (by omega)
      have huq : (qs.getD i P.z45).f0.toNat = u := by rw [← hq]; omega
      have hz0 : sumN (bF qs T hs i) (hrF hs u) = 0 := by
        rw [sumN_congr (b := fun _ => 0), sumN_zero]
        intro k hk
        unfold bF
        rw [huq, if_neg (fun z => by omega)]
      refine E.GL.done ?_
      refine E.QG.code ?_
      refine E.CG.cond_t rfl ?_
      refine E.CG.skip ?_
      refine E.QG.code ?_
      refine E.CG.seq ?_
      refine E.CG.block ?_
      refine E.CG.seq ?_
      refine E.CG.list ?_
      refine E.GL.run rfl rfl rfl (E.Runs.fieldAddr rfl rfl hu25 rfl (by assumption) rfl) ?_
      refine E.GL.run rfl rfl rfl (E.Runs.load1 rfl rfl hu23 rfl (by first | assumption | exact E.blkc (by assumption) rfl | exact pw_cell_below L (by assumption))) ?_
      refine E.GL.run rfl rfl rfl (E.Runs.move rfl rfl) ?_
      refine E.GL.run rfl rfl rfl (E.Runs.indexAddrA rfl rfl rfl hu23 z45 o45 (show (i : Int) < qs.length by omega) eQ rfl) ?_
      refine E.GL.run rfl rfl rfl (E.Runs.loads (cs := [.int .i64 q.f0, .int .i64 q.f1, .int .i64 q.f2, .int .i64 q.f3]) rfl rfl hu45 rfl info45s (fun j v hv => pw_cell_below L (cQ j v hv))) ?_
      refine E.GL.st rfl rfl rfl (E.ST.alloc rfl info45z fun g10 w10 e10 b10 l10 => ?_)
      have h10_L : w.heap.size ≤ g10 := by rw [e10]; exact L.size
      have n10_b3 : g3 ≠ g10 := by have := blk_lt b3; omega
      replace b3 := blk_below b3 l10
      replace L := below_step L l10
      refine E.GL.store_whole rfl rfl rfl rfl rfl b10 rfl info45s (four_one _ _ _ _) fun wS10_6 c10 lS10_6 => ?_
      replace b3 := blk_grown b3 lS10_6 (E.nes (by first | assumption | exact Ne.symm (by assumption)))
      replace L := E.below_own L h10_L lS10_6
      replace b10 := c10
      clear c10
      refine E.GL.done ?_
      refine E.QG.code ?_
      refine E.CG.seq ?_
      refine E.CG.list ?_
      refine E.GL.run rfl rfl rfl (E.Runs.move rfl rfl) ?_
      refine E.GL.run rfl rfl rfl (E.Runs.fieldAddr rfl rfl hu45 rfl (by assumption) rfl) ?_
      refine E.GL.run rfl rfl rfl (E.Runs.load rfl rfl hu3 (by first | assumption | exact E.blkc (by assumption) rfl | exact pw_cell_below L (by assumption))) ?_
      refine E.GL.run rfl rfl rfl (E.Runs.indexAddrA (i := u) rfl rfl (by rw [hu1]; rfl) hu22 z3 o3 (show ((u : Nat) : Int) < hs.length by omega) eHu rfl) ?_
      refine E.GL.run rfl rfl rfl (E.Runs.load (v := .int .i64 ((hrF hs u : Nat) : Int)) rfl rfl hu3 (by rw [hvu]; exact pw_cell_below L cHu)) ?_
      refine E.GL.run rfl rfl rfl (E.Runs.assign rfl rfl) ?_
      refine E.GL.done ?_
      refine E.QG.code ?_
      refine E.CG.block ?_
      have s12_b3 := b3
      have s12_b10 := b10
      have s12_L := L
      refine E.CG.loop (fun (m : Nat) => [(1, .int .i64 (T : Int)), (2, .slice C hs.length k), (3, .pointer (some ⟨g3, 0, none⟩)), (7, .int .i64 (bR ps hs ps.length + sumN (bQ qs T hs) i + sumN (bF qs T hs i) m)), (9, .int .i64 i), (10, .pointer (some ⟨g10, 0, none⟩)), (11, .int .i64 m)]) (fun m w' => hrF hs u ≤ m ∧ m ≤ T + 1 ∧ w'.heap[g3]? = some (.cells #[.slice A ps.length c, .slice B qs.length d] 25 (0, 0)) ∧ w'.heap[g10]? = some (.cells #[.int .i64 q.f0, .int .i64 q.f1, .int .i64 q.f2, .int .i64 q.f3] 45 (0, 0)) ∧ Below w.heap.size w w') (fun m => T + 1 - m) (hrF hs u) (E.subc rfl (E.subc rfl (E.subc rfl (E.subc (by rw [hz0, Int.add_zero]; rfl) (E.subc rfl (E.subc rfl (E.subc rfl E.subn))))))) ⟨Nat.le_refl _, by omega, b3, b10, L⟩ ?_
      rintro m w12 ⟨hm1, hm2, b3, b10, L⟩
      refine E.CG.seq ?_
      refine E.CG.seq ?_
      refine E.CG.list ?_
      refine E.GL.run rfl rfl rfl (E.Runs.move rfl rfl) ?_
      refine E.GL.run rfl rfl rfl (E.Runs.fieldAddr rfl rfl hu45 rfl (by assumption) rfl) ?_
      refine E.GL.run rfl rfl rfl (E.Runs.load rfl rfl hu3 (by first | assumption | exact E.blkc (by assumption) rfl | exact pw_cell_below L (by assumption))) ?_
      refine E.GL.run rfl rfl rfl (E.Runs.add rfl rfl rfl (IntWalk.i64_in _ (by omega))) ?_
      refine E.GL.run rfl rfl rfl (E.Runs.move rfl rfl) ?_
      refine E.GL.cmp rfl rfl rfl (fun _ h => (E.Runs.leq rfl rfl rfl h)) (fun h52 => ?_) (fun h52 => ?_)
      · have hfb := sumN_b (bF_b hok T hs hil) m
        refine E.GL.done ?_
        refine E.QG.code ?_
        refine E.CG.cond_t rfl ?_
        refine E.CG.skip ?_
        refine E.QG.code ?_
        refine E.CG.seq ?_
        refine E.CG.block ?_
        refine E.CG.seq ?_
        refine E.CG.quietF (by kernel_rfl) rfl (by kernel_rfl) (by kernel_rfl) ?_
        refine E.GQ.run rfl rfl rfl (E.Runs.fieldAddr rfl rfl hu45 rfl (by assumption) rfl) ?_
        refine E.GQ.run rfl rfl rfl (E.Runs.load rfl rfl hu3 (by first | assumption | exact E.blkc (by assumption) rfl | exact pw_cell_below L (by assumption))) ?_
        refine E.GQ.cmp rfl rfl rfl (fun _ h => (E.Runs.eql rfl rfl rfl h)) (fun h57 => ?_) (fun h57 => ?_)
        · have hbf : bF qs T hs i m = q.f2 := by unfold bF; rw [huq, ← hq, if_pos ⟨hm1, .inl h57, by omega⟩]
          refine E.GQ.run rfl rfl rfl (E.Runs.move rfl rfl) ?_
          refine E.GQ.skip rfl rfl rfl ?_
          refine E.GQ.skip rfl rfl rfl ?_
          refine E.GQ.skip rfl rfl rfl ?_
          refine E.GQ.skip rfl rfl rfl ?_
          refine E.GQ.skip rfl rfl rfl ?_
          refine E.GQ.skip rfl rfl rfl ?_
          refine E.GQ.skip rfl rfl rfl ?_
          refine E.GQ.skip rfl rfl rfl ?_
          refine E.GQ.skip rfl rfl rfl ?_
          refine E.GQ.skip rfl rfl rfl ?_
          refine E.GQ.run rfl rfl rfl (E.Runs.pick_t rfl rfl rfl) ?_
          refine E.GQ.doneB fun v14 lD => ?_
          replace b3 := blk_below b3 lD
          replace b10 := blk_below b10 lD
          replace L := below_step L lD
          have lD14 := lD
          clear lD
          refine E.QG.code ?_
          refine E.CG.cond_t rfl ?_
          refine E.CG.list ?_
          refine E.GL.run rfl rfl rfl (E.Runs.move rfl rfl) ?_
          refine E.GL.run rfl rfl rfl (E.Runs.fieldAddr rfl rfl hu45 rfl (by assumption) rfl) ?_
          refine E.GL.run rfl rfl rfl (E.Runs.load rfl rfl hu3 (by first | assumption | exact E.blkc (by assumption) rfl | exact pw_cell_below L (by assumption))) ?_
          refine E.GL.run rfl rfl rfl (E.Runs.add rfl rfl rfl (IntWalk.i64_in _ (by omega))) ?_
          refine E.GL.run rfl rfl rfl (E.Runs.assign rfl rfl) ?_
          refine E.GL.done ?_
          refine E.QG.block_normal ?_
          refine E.QG.code ?_
          refine E.CG.list ?_
          refine E.GL.run rfl rfl rfl (E.Runs.move rfl rfl) ?_
          refine E.GL.run rfl rfl rfl (E.Runs.add rfl rfl rfl (IntWalk.i64_in _ (by omega))) ?_
          refine E.GL.run rfl rfl rfl (E.Runs.assign rfl rfl) ?_
          refine E.GL.done ?_
          exact E.QG.round (m + 1) (E.subc rfl (E.subc rfl (E.subc rfl (E.subc (by rw [show sumN (bF qs T hs i) (m + 1) = sumN (bF qs T hs i) m + bF qs T hs i m from rfl, hbf]; first | (rw [← Int.add_assoc]; rfl) | (rw [Int.add_zero]; rfl) | fail) (E.subc rfl (E.subc rfl (E.subc rfl E.subn))))))) ⟨by omega, by omega, b3, b10, L⟩ (by omega)
        · obtain ⟨v, hv1⟩ : ∃ v : Nat, (v : Int) = q.f1 := ⟨q.f1.toNat, by omega⟩
          obtain ⟨aHv, eHv, cHv⟩ := int_at hH (getD_some (show v < hs.length by omega) 0)
          have hhv := hh1 _ (getD_mem (z := 0) (show v < hs.length by omega))
          unfold inR at hhv
          have hvv : ((hrF hs v : Nat) : Int) = hs.getD v 0 := by unfold hrF; rw [Int.toNat_of_nonneg hhv.1]
          have hvq : (qs.getD i P.z45).f1.toNat = v := by rw [← hq]; omega
          refine E.GQ.run rfl rfl rfl (E.Runs.move rfl rfl) ?_
          refine E.GQ.run rfl rfl rfl (E.Runs.move rfl rfl) ?_
          refine E.GQ.run rfl rfl rfl (E.Runs.fieldAddr rfl rfl hu45 rfl (by assumption) rfl) ?_
          refine E.GQ.run rfl rfl rfl (E.Runs.load rfl rfl hu3 (by first | assumption | exact E.blkc (by assumption) rfl | exact pw_cell_below L (by assumption))) ?_
          refine E.GQ.run rfl rfl rfl (E.Runs.add rfl rfl rfl (IntWalk.i64_in _ (by omega))) ?_
          refine E.GQ.run rfl rfl rfl (E.Runs.move rfl rfl) ?_
          refine E.GQ.run rfl rfl rfl (E.Runs.fieldAddr rfl rfl hu45 rfl (by assumption) rfl) ?_
          refine E.GQ.run rfl rfl rfl (E.Runs.load rfl rfl hu3 (by first | assumption | exact E.blkc (by assumption) rfl | exact pw_cell_below L (by assumption))) ?_
          refine E.GQ.run rfl rfl rfl (E.Runs.indexAddrA (i := v) rfl rfl (by rw [hv1]; rfl) hu22 z3 o3 (show ((v : Nat) : Int) < hs.length by omega) eHv rfl) ?_
          refine E.GQ.run rfl rfl rfl (E.Runs.load (v := .int .i64 ((hrF hs v : Nat) : Int)) rfl rfl hu3 (by rw [hvv]; exact pw_cell_below L cHv)) ?_
          refine E.GQ.cmp rfl rfl rfl (fun _ h => (E.Runs.lss rfl rfl rfl h)) (fun h68 => ?_) (fun h68 => ?_)
          · have hbf : bF qs T hs i m = q.f2 := by unfold bF; rw [huq, hvq, ← hq, if_pos ⟨hm1, .inr (by omega), by omega⟩]
            refine E.GQ.run rfl rfl rfl (E.Runs.pick_f rfl rfl rfl) ?_
            refine E.GQ.doneB fun v14 lD => ?_
            replace b3 := blk_below b3 lD
            replace b10 := blk_below b10 lD
            replace L := below_step L lD
            have lD14 := lD
            clear lD
            refine E.QG.code ?_
            refine E.CG.cond_t rfl ?_
            refine E.CG.list ?_
            refine E.GL.run rfl rfl rfl (E.Runs.move rfl rfl) ?_
            refine E.GL.run rfl rfl rfl (E.Runs.fieldAddr rfl rfl hu45 rfl (by assumption) rfl) ?_
            refine E.GL.run rfl rfl rfl (E.Runs.load rfl rfl hu3 (by first | assumption | exact E.blkc (by assumption) rfl | exact pw_cell_below L (by assumption))) ?_
            refine E.GL.run rfl rfl rfl (E.Runs.add rfl rfl rfl (IntWalk.i64_in _ (by omega))) ?_
            refine E.GL.run rfl rfl rfl (E.Runs.assign rfl rfl) ?_
            refine E.GL.done ?_
            refine E.QG.block_normal ?_
            refine E.QG.code ?_
            refine E.CG.list ?_
            refine E.GL.run rfl rfl rfl (E.Runs.move rfl rfl) ?_
            refine E.GL.run rfl rfl rfl (E.Runs.add rfl rfl rfl (IntWalk.i64_in _ (by omega))) ?_
            refine E.GL.run rfl rfl rfl (E.Runs.assign rfl rfl) ?_
            refine E.GL.done ?_
            exact E.QG.round (m + 1) (E.subc rfl (E.subc rfl (E.subc rfl (E.subc (by rw [show sumN (bF qs T hs i) (m + 1) = sumN (bF qs T hs i) m + bF qs T hs i m from rfl, hbf]; first | (rw [← Int.add_assoc]; rfl) | (rw [Int.add_zero]; rfl) | fail) (E.subc rfl (E.subc rfl (E.subc rfl E.subn))))))) ⟨by omega, by omega, b3, b10, L⟩ (by omega)
          · have hbf : bF qs T hs i m = 0 := by unfold bF; rw [huq, hvq, ← hq, if_neg (fun z => by have := z.2.1; omega)]
            refine E.GQ.run rfl rfl rfl (E.Runs.pick_f rfl rfl rfl) ?_
            refine E.GQ.doneB fun v14 lD => ?_
            replace b3 := blk_below b3 lD
            replace b10 := blk_below b10 lD
            replace L := below_step L lD
            have lD14 := lD
            clear lD
            refine E.QG.code ?_
            refine E.CG.cond_f rfl ?_
            refine E.CG.skip ?_
            refine E.QG.block_normal ?_
            refine E.QG.code ?_
            refine E.CG.list ?_
            refine E.GL.run rfl rfl rfl (E.Runs.move rfl rfl) ?_
            refine E.GL.run rfl rfl rfl (E.Runs.add rfl rfl rfl (IntWalk.i64_in _ (by omega))) ?_
            refine E.GL.run rfl rfl rfl (E.Runs.assign rfl rfl) ?_
            refine E.GL.done ?_
            exact E.QG.round (m + 1) (E.subc rfl (E.subc rfl (E.subc rfl (E.subc (by rw [show sumN (bF qs T hs i) (m + 1) = sumN (bF qs T hs i) m + bF qs T hs i m from rfl, hbf]; first | (rw [← Int.add_assoc]; rfl) | (rw [Int.add_zero]; rfl) | fail) (E.subc rfl (E.subc rfl (E.subc rfl E.subn))))))) ⟨by omega, by omega, b3, b10, L⟩ (by omega)
      · have hfull : sumN (bF qs T hs i) m = bQ qs T hs i := by
          unfold bQ
          refine sumN_stop (fun k hk => ?_) m (by rw [← hq]; omega)
          unfold bF
          rw [if_neg (fun z => by rw [← hq] at z hk; omega)]
        refine E.GL.done ?_
        refine E.QG.code ?_
        refine E.CG.cond_f rfl ?_
        refine E.CG.exit ?_
        refine E.QG.pass_exit ?_
        refine E.QG.pass_exit ?_
        refine E.QG.block_here ?_
        refine E.QG.block_normal ?_
        refine E.QG.code ?_
        refine E.CG.list ?_
        refine E.GL.run rfl rfl rfl (E.Runs.move rfl rfl) ?_
        refine E.GL.run rfl rfl rfl (E.Runs.add rfl rfl rfl (IntWalk.i64_in _ (by omega))) ?_
        refine E.GL.run rfl rfl rfl (E.Runs.assign rfl rfl) ?_
        refine E.GL.done ?_
        exact E.QG.round (i + 1) (E.subc rfl (E.subc rfl (E.subc rfl (E.subc (by rw [show sumN (bQ qs T hs) (i + 1) = sumN (bQ qs T hs) i + bQ qs T hs i from rfl, ← hfull, ← Int.add_assoc]; rfl) (E.subc rfl E.subn))))) ⟨by omega, b3, L⟩ (by omega)
    · have hie : i = qs.length := by omega
      refine E.GL.done ?_
      refine E.QG.code ?_
      refine E.CG.cond_f rfl ?_
      refine E.CG.exit ?_
      refine E.QG.pass_exit ?_
      refine E.QG.pass_exit ?_
      refine E.QG.block_here ?_
      refine E.QG.code ?_
      refine E.CG.seq ?_
      refine E.CG.list ?_
      refine E.GL.run rfl rfl rfl (E.Runs.move rfl rfl) ?_
      refine E.GL.run rfl rfl rfl (E.Runs.assign rfl rfl) ?_
      refine E.GL.done ?_
      refine E.QG.code ?_
      refine E.CG.ret ?_
      exact E.QG.result rfl rfl ⟨by rw [bound_is, hie], L⟩

end Go.Proofs.Ytmnjlnkfihklgaa.T
namespace Go.Proofs.Ytmnjlnkfihklgaa.E
open Go.RowKit Go.Proofs.YtmnjlnkfihklgaaW.PrintWords Go.Proofs.YtmnjlnkfihklgaaW.PrintMore
open Go.Proofs.Ytmnjlnkfihklgaa.T
set_option linter.unusedVariables false
set_option linter.unusedSimpArgs false
/-- How keys of a type are found. -/
structure KeyT {κ : Type} (P : Program) (k : TypeId) (ek : κ → Value) : Prop where
  inj : ∀ {x y : κ}, ek x = ek y → x = y
  check : ∀ (em : Bool) (x : κ) (W : World), (Instr.checkKey em 10000 k (ek x)).run P W = .ok () W
  find : ∀ (x : κ) (es : List MapEntry) (W : World), (∀ e ∈ es, ∃ y, e.key = ek y) →
    ((Instr.findKey k (ek x) es).run P W = .ok none W ∧ ∀ e ∈ es, e.key ≠ ek x) ∨ ∃ j e, (Instr.findKey k (ek x) es).run P W = .ok (some (j, e.val)) W ∧ es[j]? = some e ∧ e.key = ek x
  stays : ∀ (x : κ) (W : World), (Instr.keyThatStays (ek x) (ek x)).run P W = .ok (ek x) W
theorem findAsking_of {κ : Type} [DecidableEq κ] {P : Program} {k : TypeId} {ek : κ → Value} (inj : ∀ {x y : κ}, ek x = ek y → x = y) (eq : ∀ (x y : κ) (W : World), (Op.equal k (ek x) (ek y)).run P W = .ok (decide (x = y)) W) (x : κ) (W : World) : ∀ (es : List MapEntry) (i : Nat), (∀ e ∈ es, ∃ y, e.key = ek y) →
    ((Instr.findAsking k (ek x) es i).run P W = .ok none W ∧ ∀ e ∈ es, e.key ≠ ek x) ∨ ∃ j e, (Instr.findAsking k (ek x) es i).run P W = .ok (some (i + j, e.val)) W ∧ es[j]? = some e ∧ e.key = ek x
  | [], i, _ => .inl ⟨by simp [Instr.findAsking], by simp⟩
  | e :: es, i, h => by
    obtain ⟨y, hy⟩ := h e List.mem_cons_self
    unfold Instr.findAsking
    rw [Sem.run_bind, hy, eq x y W]
    by_cases q : x = y
    · subst q
      exact .inr ⟨0, e, by simp [Result.andThen], rfl, hy⟩
    · have q' : e.key ≠ ek x := fun z => q (inj (z.symm.trans hy))
      rcases findAsking_of (P := P) (k := k) inj eq x W es (i + 1) (fun e he => h e (List.mem_cons_of_mem _ he)) with ⟨h1, h2⟩ | ⟨j, e1, h1, h2, h3⟩
      · exact .inl ⟨by simp [q, Result.andThen, h1], fun e' he' => by
          rcases List.mem_cons.mp he' with rfl | he'
          · exact q'
          · exact h2 e' he'⟩
      · exact .inr ⟨j + 1, e1, by simp [q, Result.andThen, h1]; omega, by simpa using h2, h3⟩
theorem KeyT.of_equal {κ : Type} [DecidableEq κ] {P : Program} {k : TypeId} {ek : κ → Value} {d : TypeDesc} (hu : P.underlying k = some d) (inj : ∀ {x y : κ}, ek x = ek y → x = y) (eq : ∀ (x y : κ) (W : World), (Op.equal k (ek x) (ek y)).run P W = .ok (decide (x = y)) W)
    (now : ∀ x v, Instr.sameNow d (ek x) v = none) (check : ∀ (em : Bool) (x : κ) (W : World), (Instr.checkKey em 10000 k (ek x)).run P W = .ok () W) (same : ∀ x, Instr.sameBits 10000 (ek x) (ek x) = true) : KeyT P k ek := by
  refine ⟨inj, check, fun x es W hes => ?_, fun x W => by simp [Instr.keyThatStays, same x]⟩
  unfold Instr.findKey
  rw [Sem.run_bind, run_underlying hu]
  simp only [Result.andThen]
  cases es with
  | nil => exact .inl ⟨by simp [Instr.findNow], by simp⟩
  | cons e es =>
    simp only [Instr.findNow, now x]
    have := findAsking_of (P := P) (k := k) inj eq x W (e :: es) 0 hes
    simpa using this
theorem KeyT.int {P : Program} {k : TypeId} {q : IntKind} (hu : P.underlying k = some (.int q)) : KeyT P k (fun n : Int => Value.int q n) := by
  refine ⟨fun h => by injection h, fun em x W => MapKept.run_checkKey hu (by simp [MapKept.IsKey]) em 9999, fun x es W hes => ?_, fun x W => by simp [Instr.keyThatStays, Instr.sameBits]⟩
  rcases MapKept.findNow_spec (d := .int q) (k := .int q x) (by simp [MapKept.IsKey]) es 0 (fun e he => by
    obtain ⟨y, hy⟩ := hes e he
    rw [hy]
    simp [MapKept.IsKey]) with ⟨h1, h2⟩ | ⟨j, e, h1, h2, h3⟩
  · exact .inl ⟨MapKept.run_findKey hu h1, h2⟩
  · exact .inr ⟨j, e, MapKept.run_findKey hu (by simpa using h1), h2, h3⟩
section
variable {κ ν : Type} [DecidableEq κ]
def getL (l : List (κ × ν)) (x : κ) : Option ν := (l.find? (fun p => decide (p.1 = x))).map (·.2)
theorem getL_none {l : List (κ × ν)} {x : κ} (h : ∀ p ∈ l, p.1 ≠ x) : getL l x = none := by
  unfold getL
  rw [List.find?_eq_none.mpr (fun p hp => by simpa using h p hp)]
  rfl
theorem getL_at : ∀ {l : List (κ × ν)} {x : κ} {v : ν} {j : Nat}, (l.map (·.1)).Nodup → l[j]? = some (x, v) → getL l x = some v
  | [], _, _, _, _, h => by simp at h
  | p :: l, x, v, 0, hn, h => by
    simp at h
    subst h
    simp [getL]
  | p :: l, x, v, j + 1, hn, h => by
    rw [List.map_cons, List.nodup_cons] at hn
    have hm : (x, v) ∈ l := List.mem_of_getElem? (by simpa using h)
    have hne : p.1 ≠ x := fun q => hn.1 (List.mem_map.mpr ⟨_, hm, q.symm⟩)
    have := getL_at (j := j) hn.2 (by simpa using h)
    unfold getL at this ⊢
    rw [List.find?_cons_of_neg (by simpa using hne)]
    exact this
theorem getL_append {l : List (κ × ν)} {x y : κ} {v : ν} (h : ∀ p ∈ l, p.1 ≠ x) : getL (l ++ [(x, v)]) y = if y = x then some v else getL l y := by
  by_cases q : y = x
  · subst q
    rw [if_pos rfl]
    unfold getL
    rw [List.find?_append, List.find?_eq_none.mpr (fun p hp => by simpa using h p hp)]
    simp
  · rw [if_neg q]
    unfold getL
    rw [List.find?_append]
    have : ([(x, v)] : List (κ × ν)).find? (fun p => decide (p.1 = y)) = none := by simp [Ne.symm q]
    rw [this]
    simp
theorem getL_set : ∀ {l : List (κ × ν)} {j : Nat} {x y : κ} {u v : ν}, (l.map (·.1)).Nodup → l[j]? = some (x, u) → getL (l.set j (x, v)) y = if y = x then some v else getL l y
  | [], _, _, _, _, _, _, h => by simp at h
  | p :: l, 0, x, y, u, v, hn, h => by
    simp at h
    subst h
    simp only [List.set_cons_zero]
    unfold getL
    by_cases q : y = x
    · subst q
      simp
    · rw [if_neg q, List.find?_cons_of_neg (by simpa using Ne.symm q), List.find?_cons_of_neg (by simpa using Ne.symm q)]
  | p :: l, j + 1, x, y, u, v, hn, h => by
    rw [List.map_cons, List.nodup_cons] at hn
    have h' : l[j]? = some (x, u) := by simpa using h
    have hne : p.1 ≠ x := fun q => hn.1 (List.mem_map.mpr ⟨_, List.mem_of_getElem? h', q.symm⟩)
    have ih := getL_set (y := y) (v := v) hn.2 h'
    simp only [List.set_cons_succ]
    unfold getL at ih ⊢
    by_cases q : p.1 = y
    · subst q
      rw [List.find?_cons_of_pos (by simp), List.find?_cons_of_pos (by simp), if_neg hne]
    · rw [List.find?_cons_of_neg (by simpa using q), List.find?_cons_of_neg (by simpa using q)]
      exact ih
def upd (f : κ → Option ν) (x : κ) (v : ν) (y : κ) : Option ν := if y = x then some v else f y
/-- The entries of a map, and what it has at each key. -/
structure MfE (ek : κ → Value) (ev : ν → Value) (es : Array MapEntry) (clock : Nat) (l : List (κ × ν)) (f : κ → Option ν) : Prop where
  is : es.toList.map (fun e => (e.key, e.val)) = l.map (fun p => (ek p.1, ev p.2))
  lt : ∀ e ∈ es.toList, e.born < clock
  nb : (es.toList.map (·.born)).Nodup
  nd : (l.map (·.1)).Nodup
  get : ∀ x, getL l x = f x
/-- A map in memory. -/
def Mf (ek : κ → Value) (ev : ν → Value) (w : World) (g : Nat) (f : κ → Option ν) : Prop := ∃ es clock l, w.heap[g]? = some (.map es clock) ∧ MfE ek ev es clock l f
/-- .. and the entry of a key is the one that was made at a time. -/
def MfS (ek : κ → Value) (ev : ν → Value) (w : World) (g : Nat) (f : κ → Option ν) (s : Int) (x : κ) : Prop := ∃ es clock l, w.heap[g]? = some (.map es clock) ∧ MfE ek ev es clock l f ∧ ∃ (j : Nat) (e : MapEntry), es.toList[j]? = some e ∧ e.key = ek x ∧ (e.born : Int) = s
variable {ek : κ → Value} {ev : ν → Value} {P : Program} {k : TypeId} {w w' : World} {g : Nat} {f : κ → Option ν}
theorem Mf.heap (h : Mf ek ev w g f) (e : w'.heap = w.heap) : Mf ek ev w' g f := by unfold Mf at h ⊢; rw [e]; exact h
theorem Mf.grown {row : Option Nat} (h : Mf ek ev w g f) (k : w.grownBy w' row) (hn : some g ≠ row) : Mf ek ev w' g f := by
  obtain ⟨es, clock, l, hb, hE⟩ := h
  exact ⟨es, clock, l, (k.block g (Array.getElem?_eq_some_iff.1 hb).1 hn).trans hb, hE⟩
theorem Mf.below (h : Mf ek ev w g f) (k : Below w.heap.size w w') : Mf ek ev w' g f := by
  obtain ⟨es, clock, l, hb, hE⟩ := h
  exact ⟨es, clock, l, (k.block g (Array.getElem?_eq_some_iff.1 hb).1).trans hb, hE⟩
theorem Mf.lt (h : Mf ek ev w g f) : g < w.heap.size := by
  obtain ⟨es, clock, l, hb, hE⟩ := h
  exact (Array.getElem?_eq_some_iff.1 hb).1
theorem Mf.congr {f' : κ → Option ν} (h : Mf ek ev w g f) (e : ∀ x, f x = f' x) : Mf ek ev w g f' := by
  obtain ⟨es, clock, l, hb, hE⟩ := h
  exact ⟨es, clock, l, hb, hE.is, hE.lt, hE.nb, hE.nd, fun x => (hE.get x).trans (e x)⟩
theorem Mf.made (w : World) : Mf ek ev (w.alloc (.map #[] 0)) w.heap.size (fun _ => none) := ⟨#[], 0, [], (MapKept.heap_alloc w _).1, by simp, by simp, by simp, by simp, fun x => by simp [getL]⟩
theorem MfE.keys {es : Array MapEntry} {clock : Nat} {l : List (κ × ν)} (h : MfE ek ev es clock l f) : ∀ e ∈ es.toList, ∃ y, e.key = ek y := fun e he => by
  have : (e.key, e.val) ∈ l.map (fun p => (ek p.1, ev p.2)) := by rw [← h.is]; exact List.mem_map.mpr ⟨e, he, rfl⟩
  obtain ⟨p, hp, q⟩ := List.mem_map.mp this
  exact ⟨p.1, by injection q with q1 q2; exact q1.symm⟩
theorem MfE.at_ {es : Array MapEntry} {clock : Nat} {l : List (κ × ν)} (h : MfE ek ev es clock l f) (K : KeyT P k ek) {j : Nat} {e : MapEntry} {x : κ} (hj : es.toList[j]? = some e) (hk : e.key = ek x) : ∃ v, l[j]? = some (x, v) ∧ f x = some v ∧ e.val = ev v := by
  have h1 : (es.toList.map (fun e => (e.key, e.val)))[j]? = some (e.key, e.val) := by rw [List.getElem?_map, hj]; rfl
  rw [h.is, List.getElem?_map] at h1
  obtain ⟨p, hp, q⟩ := Option.map_eq_some_iff.mp h1
  injection q with q1 q2
  have : p.1 = x := K.inj (q1.trans hk)
  obtain ⟨p1, p2⟩ := p
  simp only at this q2
  subst this
  exact ⟨p2, hp, by rw [← h.get]; exact getL_at h.nd hp, q2.symm⟩
theorem MfE.no {es : Array MapEntry} {clock : Nat} {l : List (κ × ν)} (h : MfE ek ev es clock l f) {x : κ} (hn : ∀ e ∈ es.toList, e.key ≠ ek x) : (∀ p ∈ l, p.1 ≠ x) ∧ f x = none := by
  have h1 : ∀ p ∈ l, p.1 ≠ x := fun p hp q => by
    have : (ek p.1, ev p.2) ∈ es.toList.map (fun e => (e.key, e.val)) := by rw [h.is]; exact List.mem_map.mpr ⟨p, hp, rfl⟩
    obtain ⟨e, he, q2⟩ := List.mem_map.mp this
    injection q2 with q3 q4
    exact hn e he (by rw [q3, q])
  exact ⟨h1, by rw [← h.get]; exact getL_none h1⟩
theorem MfE.push {es : Array MapEntry} {clock : Nat} {l : List (κ × ν)} (h : MfE ek ev es clock l f) {x : κ} (hn : ∀ p ∈ l, p.1 ≠ x) (v : ν) : MfE ek ev (es.push { key := ek x, val := ev v, born := clock }) (clock + 1) (l ++ [(x, v)]) (upd f x v) := by
  refine ⟨by simp [h.is], fun e he => ?_, ?_, ?_, fun y => ?_⟩
  · rw [Array.toList_push, List.mem_append] at he
    rcases he with he | he
    · have := h.lt e he; omega
    · simp at he; subst he; simp
  · rw [Array.toList_push, List.map_append]
    refine List.nodup_append.mpr ⟨h.nb, by simp, fun a ha b hb => ?_⟩
    obtain ⟨e, he, rfl⟩ := List.mem_map.mp ha
    simp at hb
    have := h.lt e he
    omega
  · rw [List.map_append]
    refine List.nodup_append.mpr ⟨h.nd, by simp, fun a ha b hb => ?_⟩
    obtain ⟨p, hp, rfl⟩ := List.mem_map.mp ha
    simp at hb
    subst hb
    exact hn p hp
  · rw [getL_append hn]
    unfold upd
    rw [h.get]
theorem modify_list (es : Array MapEntry) (j : Nat) (F : MapEntry → MapEntry) {e : MapEntry} (hj : es.toList[j]? = some e) : (es.modify j F).toList = es.toList.set j (F e) := by
  have hlt := (List.getElem?_eq_some_iff.1 hj).1
  have he := (List.getElem?_eq_some_iff.1 hj).2
  rw [Array.toList_modify]
  apply List.ext_getElem
  · simp
  · intro i h1 h2
    rw [List.getElem_modify, List.getElem_set]
    by_cases q : j = i
    · subst q
      simp [he]
    · simp [q]
theorem set_same {α : Type} {l : List α} {j : Nat} {x : α} (h : l[j]? = some x) : l.set j x = l := by
  apply List.ext_getElem?
  intro i
  by_cases q : j = i
  · subst q
    rw [List.getElem?_set_self (List.getElem?_eq_some_iff.1 h).1, h]
  · rw [List.getElem?_set_ne q]
theorem MfE.put {es : Array MapEntry} {clock : Nat} {l : List (κ × ν)} (h : MfE ek ev es clock l f) (K : KeyT P k ek) {j : Nat} {e : MapEntry} {x : κ} (hj : es.toList[j]? = some e) (hk : e.key = ek x) (v : ν) (F : MapEntry → MapEntry) (hF : F e = { e with val := ev v }) :
    MfE ek ev (es.modify j F) clock (l.set j (x, v)) (upd f x v) := by
  obtain ⟨u, h1, h2, h3⟩ := h.at_ K hj hk
  have hl := modify_list es j F hj
  rw [hF] at hl
  have hb : (es.toList.set j { e with val := ev v }).map (·.born) = es.toList.map (·.born) := by
    rw [List.map_set]
    exact set_same (by rw [List.getElem?_map, hj]; rfl)
  refine ⟨?_, fun e' he' => ?_, ?_, ?_, fun y => ?_⟩
  · rw [hl, List.map_set, h.is, List.map_set, hk]
  · have hm : e'.born ∈ (es.toList.set j { e with val := ev v }).map (·.born) := by rw [← hl]; exact List.mem_map.mpr ⟨e', he', rfl⟩
    rw [hb] at hm
    obtain ⟨e2, he2, q⟩ := List.mem_map.mp hm
    rw [← q]
    exact h.lt e2 he2
  · rw [hl, hb]
    exact h.nb
  · rw [List.map_set, set_same (by rw [List.getElem?_map, h1]; rfl)]
    exact h.nd
  · rw [getL_set h.nd h1]
    unfold upd
    rw [h.get]
theorem set_block {o o' : Obj} (h : w.heap[g]? = some o) : ({ w with heap := w.heap.setIfInBounds g o' } : World).heap[g]? = some o' ∧ w.grownBy { w with heap := w.heap.setIfInBounds g o' } (some g) := by
  obtain ⟨h1, h2⟩ := MapKept.heap_set (o' := o') h
  refine ⟨h1, rfl, rfl, rfl, by simp, fun k hk hne => ?_⟩
  exact h2 k (fun e => hne (by rw [e]))
/-- m[k] is read. -/
theorem Mf.lookup {t e : TypeId} {z : Value} (M : Mf ek ev w g f) (K : KeyT P k ek) (ht : P.underlying t = some (.map k e)) (hz : (zeroValue e).run P w = .ok z w) (x : κ) (c : Bool) :
    (Instr.lookup t (.map (some g)) (ek x) c).run P w = .ok (if c then .tuple #[((f x).map ev).getD z, .bool (f x).isSome] else ((f x).map ev).getD z) w := by
  obtain ⟨es, clock, l, hb, hE⟩ := M
  have hg := MapKept.run_getObj_map (P := P) hb
  rcases K.find x es.toList w hE.keys with ⟨h1, h2⟩ | ⟨j, e1, h1, h2, h3⟩
  · rw [(hE.no h2).2]
    simp [Instr.lookup, Sem.run_bind, run_underlying ht, hg, K.check, h1, hz, Result.andThen]
  · obtain ⟨v, q1, q2, q3⟩ := hE.at_ K h2 h3
    rw [q2]
    simp [Instr.lookup, Sem.run_bind, run_underlying ht, hg, K.check, h1, q3, Result.andThen]
/-- m[k] op= .., the first part. -/
theorem Mf.entry {t e : TypeId} {z : ν} (M : Mf ek ev w g f) (K : KeyT P k ek) (ht : P.underlying t = some (.map k e)) (hz : ∀ W, (zeroValue e).run P W = .ok (ev z) W) (x : κ) :
    ∃ w1 s, (Instr.mapEntry t (.map (some g)) (ek x)).run P w = .ok (.tuple #[ev ((f x).getD z), .int .i64 s]) w1 ∧ MfS ek ev w1 g (upd f x ((f x).getD z)) s x ∧ w.grownBy w1 (some g) := by
  obtain ⟨es, clock, l, hb, hE⟩ := M
  have hg := MapKept.run_getObj_map (P := P) hb
  rcases K.find x es.toList w hE.keys with ⟨h1, h2⟩ | ⟨j, e1, h1, h2, h3⟩
  · obtain ⟨q1, q2⟩ := hE.no h2
    obtain ⟨s1, s2⟩ := set_block (w := w) (g := g) (o' := .map (es.push { key := ek x, val := ev z, born := clock }) (clock + 1)) hb
    refine ⟨_, (clock : Int), ?_, ⟨_, _, _, s1, by rw [q2]; exact hE.push q1 z, es.size, { key := ek x, val := ev z, born := clock }, by simp, rfl, rfl⟩, s2⟩
    rw [q2]
    simp [Instr.mapEntry, Sem.run_bind, run_underlying ht, hg, K.check, h1, hz, Result.andThen, MapKept.run_setObj_map _ hb, goInt]
  · obtain ⟨v, q1, q2, q3⟩ := hE.at_ K h2 h3
    have h2' : es[j]? = some e1 := by simpa using h2
    obtain ⟨s1, s2⟩ := set_block (w := w) (g := g) (o' := .map (es.modify j fun e => { e with key := ek x }) clock) hb
    have hp := hE.put K h2 h3 v (fun e => { e with key := ek x }) (by rw [← h3, ← q3])
    refine ⟨_, (e1.born : Int), ?_, ⟨_, _, _, s1, by rw [q2]; exact hp, j, e1, ?_, h3, rfl⟩, s2⟩
    · rw [q2]
      have hst := K.stays x w
      simp [Instr.mapEntry, Sem.run_bind, run_underlying ht, hg, K.check, h1, Result.andThen, MapKept.run_setObj_map _ hb, goInt, h2', h3, hst, q3]
    · rw [modify_list es j _ h2, List.getElem?_set_self (List.getElem?_eq_some_iff.1 h2).1, ← h3]
theorem findIdx_born {es : Array MapEntry} (hn : (es.toList.map (·.born)).Nodup) {j : Nat} {e : MapEntry} (hj : es.toList[j]? = some e) : es.findIdx? (fun x => (x.born : Int) == (e.born : Int)) = some j := by
  have hlt := (List.getElem?_eq_some_iff.1 hj).1
  have he := (List.getElem?_eq_some_iff.1 hj).2
  rw [Array.findIdx?_eq_some_iff_getElem]
  refine ⟨by simpa using hlt, by simp at he; simp [he], fun i hi => ?_⟩
  have h1 : ¬ es.toList[i].born = es.toList[j].born := fun q => by
    have := (List.pairwise_iff_getElem.mp hn) i j (by simp; simp at hlt; omega) (by simpa using hlt) hi
    apply this
    simpa using q
  rw [he] at h1
  simpa using fun q => h1 (by exact_mod_cast q)
/-- .. and its second part. -/
theorem MfS.store {t : TypeId} {s : Int} {x : κ} (M : MfS ek ev w g f s x) (K : KeyT P k ek) (v : ν) :
    ∃ w1, (Instr.entryStore t (.map (some g)) (.int .i64 s) (ev v)).run P w = .ok () w1 ∧ Mf ek ev w1 g (upd f x v) ∧ w.grownBy w1 (some g) := by
  obtain ⟨es, clock, l, hb, hE, j, e, hj, hk, rfl⟩ := M
  have hg := MapKept.run_getObj_map (P := P) hb
  obtain ⟨s1, s2⟩ := set_block (w := w) (g := g) (o' := .map (es.modify j fun e => { e with val := ev v }) clock) hb
  refine ⟨_, ?_, ⟨_, _, _, s1, hE.put K hj hk v _ rfl⟩, s2⟩
  simp [Instr.entryStore, Sem.run_bind, hg, asInt, asIntOf, Result.andThen, findIdx_born hE.nb hj, MapKept.run_setObj_map _ hb]
end
end Go.Proofs.Ytmnjlnkfihklgaa.E
namespace Go.Proofs.Ytmnjlnkfihklgaa.E
open Go.RowKit Go.Proofs.YtmnjlnkfihklgaaW.PrintWords Go.Proofs.YtmnjlnkfihklgaaW.PrintMore
open Go.Proofs.Ytmnjlnkfihklgaa.T
set_option linter.unusedVariables false
set_option linter.unusedSimpArgs false
section
variable {κ ν : Type} [DecidableEq κ] {ek : κ → Value} {ev : ν → Value} {P : Program} {k : TypeId} {w w' : World} {g : Nat}
/-- A map that is asked with a zero for what it does not have. -/
def Mz (ek : κ → Value) (ev : ν → Value) (z : ν) (w : World) (g : Nat) (F : κ → ν) : Prop := ∃ f, Mf ek ev w g f ∧ ∀ x, F x = (f x).getD z
/-- .. and the entry of a key is the one that was made at a time. -/
def MzS (ek : κ → Value) (ev : ν → Value) (z : ν) (w : World) (g : Nat) (F : κ → ν) (s : Int) (x : κ) : Prop := ∃ f, MfS ek ev w g f s x ∧ ∀ x, F x = (f x).getD z
def updZ (F : κ → ν) (x : κ) (v : ν) (y : κ) : ν := if y = x then v else F y
theorem updZ_get {f : κ → Option ν} {F : κ → ν} {z : ν} (h : ∀ x, F x = (f x).getD z) (x : κ) (v : ν) (y : κ) : updZ F x v y = (upd f x v y).getD z := by
  unfold updZ upd
  split
  · rfl
  · exact h y
variable {z : ν} {F : κ → ν}
theorem Mz.heap (h : Mz ek ev z w g F) (e : w'.heap = w.heap) : Mz ek ev z w' g F := by obtain ⟨f, h1, h2⟩ := h; exact ⟨f, h1.heap e, h2⟩
theorem Mz.grown {row : Option Nat} (h : Mz ek ev z w g F) (k : w.grownBy w' row) (hn : some g ≠ row) : Mz ek ev z w' g F := by obtain ⟨f, h1, h2⟩ := h; exact ⟨f, h1.grown k hn, h2⟩
theorem Mz.below (h : Mz ek ev z w g F) (k : Below w.heap.size w w') : Mz ek ev z w' g F := by obtain ⟨f, h1, h2⟩ := h; exact ⟨f, h1.below k, h2⟩
theorem Mz.lt (h : Mz ek ev z w g F) : g < w.heap.size := by obtain ⟨f, h1, h2⟩ := h; exact h1.lt
theorem Mz.congr {F' : κ → ν} (h : Mz ek ev z w g F) (e : ∀ x, F x = F' x) : Mz ek ev z w g F' := by obtain ⟨f, h1, h2⟩ := h; exact ⟨f, h1, fun x => (e x).symm.trans (h2 x)⟩
theorem MzS.mz {s : Int} {x : κ} (h : MzS ek ev z w g F s x) : Mz ek ev z w g F := by
  obtain ⟨f, ⟨es, clock, l, h1, h2, _⟩, h3⟩ := h
  exact ⟨f, ⟨es, clock, l, h1, h2⟩, h3⟩
theorem MzS.heap {s : Int} {x : κ} (h : MzS ek ev z w g F s x) (e : w'.heap = w.heap) : MzS ek ev z w' g F s x := by
  obtain ⟨f, h1, h2⟩ := h
  refine ⟨f, ?_, h2⟩
  unfold MfS at h1 ⊢
  rw [e]
  exact h1
variable {N : Nat} {env : Env} {o : Oper} {Q : Exit → Act → World → Prop} {K : Value → World → Prop}
theorem Runs.lookupF {t e : TypeId} {m y : Operand} {f : κ → Option ν} {c : Bool} {zv v : Value} (ho : o.op = .lookup t m y c) (hm : Ev env m (.map (some g))) (KT : KeyT P k ek) {x : κ} (hx : Ev env y (ek x)) (ht : P.underlying t = some (.map k e)) (hz : ∀ W, (zeroValue e).run P W = .ok zv W) (M : Mf ek ev w g f)
    (hv : (if c then Value.tuple #[((f x).map ev).getD zv, .bool (f x).isSome] else ((f x).map ev).getD zv) = v) : Runs P N env o w v := fun a w' ha hw => by
  have h := (M.heap hw).lookup KT ht (hz w') x c
  rw [hv] at h
  have e1 := ha.eval hm
  have e2 := ha.eval hx
  generalize a.eval = ρ at e1 e2 ⊢
  unfold execOp; rw [ho]; simp only []; rw [e1, e2]
  simp [go_sem, h]
theorem Runs.lookupZ {t e : TypeId} {m y : Operand} (ho : o.op = .lookup t m y false) (hm : Ev env m (.map (some g))) (KT : KeyT P k ek) {x : κ} (hx : Ev env y (ek x)) (ht : P.underlying t = some (.map k e)) (hz : ∀ W, (zeroValue e).run P W = .ok (ev z) W) (M : Mz ek ev z w g F) : Runs P N env o w (ev (F x)) := by
  obtain ⟨f, h1, h2⟩ := M
  refine Runs.lookupF ho hm KT hx ht hz h1 ?_
  rw [h2]
  simp only [Bool.false_eq_true, if_false]
  cases f x <;> rfl
theorem ST.makeMap {t : TypeId} (ek : κ → Value) (ev : ν → Value) (ho : o.op = .makeMap t none) (h : ∀ g w1, g = w.heap.size → Mf ek ev w1 g (fun _ => none) → Below w.heap.size w w1 → K (.map (some g)) w1) : ST P Q N env w o K := by
  refine ST.ev (v := .map (some w.heap.size)) (w1 := w.alloc (.map #[] 0)) (fun a ha => ?_) (h _ _ rfl (Mf.made w) (below_alloc (Below.refl _ _) _))
  unfold execOp; rw [ho]
  rfl
theorem Mf.mz {f : κ → Option ν} (h : Mf ek ev w g f) (z : ν) : Mz ek ev z w g (fun x => (f x).getD z) := ⟨f, h, fun _ => rfl⟩
theorem ST.mapEntry {t e : TypeId} {m y : Operand} (ho : o.op = .mapEntry t m y) (hm : Ev env m (.map (some g))) (KT : KeyT P k ek) (x : κ) (hx : Ev env y (ek x)) (ht : P.underlying t = some (.map k e)) (hz : ∀ W, (zeroValue e).run P W = .ok (ev z) W) (M : Mz ek ev z w g F)
    (h : ∀ w1 s, MzS ek ev z w1 g F s x → w.grownBy w1 (some g) → K (.tuple #[ev (F x), .int .i64 s]) w1) : ST P Q N env w o K := by
  obtain ⟨f, h1, h2⟩ := M
  obtain ⟨w1, s, hr, hM, hg⟩ := h1.entry KT ht hz x
  refine ST.ev (v := .tuple #[ev (F x), .int .i64 s]) (w1 := w1) (fun a ha => ?_) (h w1 s ⟨_, hM, fun y => ?_⟩ hg)
  · have e1 := ha.eval hm
    have e2 := ha.eval hx
    generalize a.eval = ρ at e1 e2 ⊢
    unfold execOp; rw [ho]; simp only []; rw [e1, e2, h2]
    simp [go_sem, hr]
  · rw [h2]
    unfold upd
    by_cases q : y = x
    · subst q; simp
    · rw [if_neg q]
theorem ST.entryStore {t : TypeId} {m s y : Operand} {n : Int} {x : κ} {v : ν} (ho : o.op = .entryStore t m s y) (hm : Ev env m (.map (some g))) (hs : Ev env s (.int .i64 n)) (hy : Ev env y (ev v)) (KT : KeyT P k ek) (M : MzS ek ev z w g F n x)
    (h : ∀ w1, Mz ek ev z w1 g (updZ F x v) → w.grownBy w1 (some g) → K undef w1) : ST P Q N env w o K := by
  obtain ⟨f, h1, h2⟩ := M
  obtain ⟨w1, hr, hM, hg⟩ := h1.store (t := t) KT v
  intro a ha Kc hK
  have e1 := ha.eval hm
  have e2 := ha.eval hs
  have e3 := ha.eval hy
  have : (execOp a.eval o).run P w = .ok .skip w1 := by
    generalize a.eval = ρ at e1 e2 e3 ⊢
    unfold execOp; rw [ho]; simp only []; rw [e1, e2, e3]
    simp [go_sem, hr]
  unfold Oper.wp
  rw [this]
  exact hK _ _ (h w1 ⟨_, hM, updZ_get h2 x v⟩ hg)
end
end Go.Proofs.Ytmnjlnkfihklgaa.E
