/- Slots in new memory; how many wait in a case; when the foyer is crowded: the walks. -/
import Derived.Test.YthdbkhdiaehblaaT29
import Derived.Test.YthdbkhdiaehblaaE6
namespace Go.Proofs.Ythdbkhdiaehblaa.T
open Go.RowKit Go.Proofs.YthdbkhdiaehblaaW.PrintWords Go.Proofs.YthdbkhdiaehblaaW.PrintMore
open Go.Proofs.Ythdbkhdiaehblaa.P
set_option linter.unusedVariables false
set_option maxRecDepth 100000 in
theorem lit36n (W : World) : (Instr.buildSlice 26 0 #[]).run Try.prog W = .ok (.slice (some ⟨W.heap.size, 0, none⟩) ([] : List S36).length ([] : List S36).length) (W.alloc (.cells ([] : List Value).toArray 36)) := by
  have hu26 := Try.underlying26
  go_simp
  try rfl
theorem k36_made {W : World} {base : Nat} (x : S36) (cs : List Value) (h : k36.K W x cs) : k36.M W base (fun _ => False) x cs := by
  rw [k36_open h]
  exact k36_mkM _ _ _ _

set_option maxRecDepth 100000 in
set_option maxHeartbeats 8000000 in

theorem copied_own (l : List S36) (A1 : Option Addr) (c1 : Nat) (w : World) (hn : l.length ≤ 1000000) (hr : Kd.C k36 w A1 l.length l) (hc : l.length ≤ c1) :
    Calls Try.prog 18 #[.slice A1 l.length c1] w fun e w' => ∃ v, e = .returned v ∧ Kd.R k36 36 w' w.heap.size (fun _ => True) v l ∧ Below w.heap.size w w' := by
  have hu26 := Try.underlying26
  refine E.enter (N := 6) Try.func18 rfl Try.ntmps18 (args := [.slice A1 l.length c1]) (by simp) ?_
  have L := Below.refl w.heap.size w
  refine E.CG.seq ?_
  refine E.CG.list ?_
  refine E.GL.run rfl rfl rfl (E.Runs.assign rfl rfl) ?_
  refine E.GL.done ?_
  refine E.QG.code ?_
  refine E.CG.seq ?_
  refine E.CG.list ?_
  refine E.GL.st rfl rfl rfl (E.ST.litR k36 w.heap.size (w0 := w) (ys := ([] : List S36)) (inner := []) rfl rfl E.epn lit36n (Reps.none _ _) L L.size (by simp) fun u3 w3 r3 k3 g3 => ?_)
  replace L := k3
  refine E.GL.run rfl rfl rfl (E.Runs.move rfl rfl) ?_
  refine E.GL.st rfl rfl rfl (E.ST.appendRows k36 w.heap.size (w0 := w) (s := .tmp 3) (x := .tmp 4) rfl hu26 info36 rfl (by decide) (by decide) rfl rfl r3 (Kd.C_below hr L) k36_made L L.size (by simp only [List.length_nil]; omega) fun u5 w5 r5 k5 g5 => ?_)
  replace L := k5
  refine E.GL.run rfl rfl rfl (E.Runs.assign rfl rfl) ?_
  refine E.GL.done ?_
  refine E.QG.code ?_
  refine E.CG.ret ?_
  exact E.QG.result rfl rfl ⟨_, rfl, by simpa using r5, L⟩

theorem copied_row (l : List S36) (A1 : Option Addr) (c1 : Nat) (w : World) (hn : l.length ≤ 1000000) (hr : Kd.C k36 w A1 l.length l) (hc : l.length ≤ c1) :
    Calls Try.prog 18 #[.slice A1 l.length c1] w fun e w' => ∃ A c, e = .returned (.slice A l.length c) ∧ l.length ≤ c ∧ Kd.C k36 w' A l.length l ∧ Below w.heap.size w w' := by
  refine (copied_own l A1 c1 w hn hr hc).mono ?_
  rintro e w' ⟨v, rfl, hR, hb⟩
  obtain ⟨A, c, rfl⟩ := Kd.R_slice hR
  obtain ⟨h1, h2, h3⟩ := Kd.R_reads' hR
  exact ⟨A, c, rfl, h2, h3, hb⟩
/-- A pace of which only the rate is told. -/
def pcR (ra : Int) : Pc := ⟨0, 0, ra, fun _ => 0⟩
theorem waitOne_b {p : Pc} {H : Hs} {s : S36} {t : Tm} {m : Int} (h0 : 0 ≤ s.f3) (h1 : s.f3 ≤ 1000) (hr : 0 ≤ p.ra) : 0 ≤ waitOne p H s t m ∧ waitOne p H s t m ≤ 1000 := by
  have h : 0 ≤ p.ra * mx 0 (m - t.enter + 1) := Int.mul_nonneg hr (by unfold mx; split <;> omega)
  unfold waitOne
  split
  · unfold mn
    split <;> omega
  · omega
theorem waitSum_b {p : Pc} {H : Hs} {m : Int} (hr : 0 ≤ p.ra) : ∀ (l : List S36) (q : List Tm), (∀ s ∈ l, 0 ≤ s.f3 ∧ s.f3 ≤ 1000) → 0 ≤ waitSum p H m l q ∧ waitSum p H m l q ≤ 1000 * l.length
  | [], _, _ => by simp [waitSum]
  | s :: r, [], _ => by simp only [waitSum, List.length_cons]; omega
  | s :: r, t :: q, h => by
    have h1 := waitSum_b hr r q (fun x hx => h x (List.mem_cons_of_mem _ hx)) (H := H) (m := m)
    have h0 := h s List.mem_cons_self
    have h2 := waitOne_b (H := H) (t := t) (m := m) h0.1 h0.2 hr
    simp only [waitSum, List.length_cons]
    omega
theorem waitSum_take {p : Pc} {H : Hs} {m : Int} {l : List S36} {q : List Tm} {i : Nat} {s : S36} {t : Tm} (hs : l[i]? = some s) (ht : q[i]? = some t) : waitSum p H m (l.take (i + 1)) (q.take (i + 1)) = waitSum p H m (l.take i) (q.take i) + waitOne p H s t m := by
  have h1 := (List.getElem?_eq_some_iff.1 hs).1
  have h2 := (List.getElem?_eq_some_iff.1 ht).1
  rw [List.take_add_one, List.take_add_one, hs, ht]
  exact waitSum_snoc p H m s t _ _ (by simp; omega)

set_option maxRecDepth 100000 in
set_option maxHeartbeats 8000000 in

theorem waits_row (H : Hs) (l : List S36) (rs cs : List Int) (ra m : Int) (A1 Ar Ac : Option Addr) (c1 cr cc : Nat) (w : World) (hm : 0 ≤ m ∧ m ≤ 10000) (hn : l.length ≤ 100) (R : RtOk (⟨ra, H.walk, H.early⟩ : Rt)) (X : ∀ x ∈ items l rs cs, ItOk x)
    (hr : Kd.C k36 w A1 l.length l) (hc : l.length ≤ c1) (hR : Kd.C (Kd.int .i64) w Ar l.length rs) (hC : Kd.C (Kd.int .i64) w Ac l.length cs) :
    Calls Try.prog 28 #[hv H, .slice A1 l.length c1, .agg #[.slice Ar l.length cr, .slice Ac l.length cc, .int .i64 ra], .int .i64 m] w fun e w' => e = .returned (.int .i64 (waitSum (pcR ra) H m l (dayT (⟨ra, H.walk, H.early⟩ : Rt) (items l rs cs)))) ∧ Below w.heap.size w w' := by
  have hu3 := Try.underlying3
  have hu25 := Try.underlying25
  have hu26 := Try.underlying26
  have hu36 := Try.underlying36
  have hu47 := Try.underlying47
  have hu49 := Try.underlying49
  have hu53 := Try.underlying53
  have hu56 := Try.underlying56
  obtain ⟨z3, o3⟩ := info_some info3s (by decide)
  obtain ⟨z36, o36⟩ := info_some info36s (by decide)
  obtain ⟨z47, o47⟩ := info_some info47s (by decide)
  obtain ⟨z56, o56⟩ := info_some info56s (by decide)
  have hrl : rs.length = l.length := Kd.C_len hR
  have hcl : cs.length = l.length := Kd.C_len hC
  have hxl := items_length l rs cs hrl hcl
  refine E.enter (N := 60) Try.func28 rfl Try.ntmps28 (args := [hv H, .slice A1 l.length c1, .agg #[.slice Ar l.length cr, .slice Ac l.length cc, .int .i64 ra], .int .i64 m]) (by simp) ?_
  have L := Below.refl w.heap.size w
  refine E.CG.seq ?_
  refine E.CG.list ?_
  refine E.GL.st rfl rfl rfl (E.ST.box rfl rfl fun g4 w4 e4 b4 l4 => ?_)
  have h4_L : w.heap.size ≤ g4 := by rw [e4]; exact L.size
  replace L := below_step L l4
  refine E.GL.st rfl rfl rfl (E.ST.box rfl rfl fun g6 w6 e6 b6 l6 => ?_)
  have h6_L : w.heap.size ≤ g6 := by rw [e6]; exact L.size
  have n6_b4 : g4 ≠ g6 := by have := blk_lt b4; omega
  replace b4 := blk_below b4 l6
  replace L := below_step L l6
  refine E.GL.run rfl rfl rfl (E.Runs.assign rfl rfl) ?_
  refine E.GL.done ?_
  refine E.QG.code ?_
  refine E.CG.seq ?_
  refine E.CG.list ?_
  refine E.GL.run rfl rfl rfl (E.Runs.loads (cs := [.int .i64 H.teams, .int .i64 H.walk, .int .i64 H.early, .int .i64 H.foyer, .int .i64 H.dl, .int .i64 H.dh, .int .i64 H.cl, .int .i64 H.ch]) rfl rfl hu25 rfl info25s (blk_cells b4)) ?_
  refine E.GL.run rfl rfl rfl (E.Runs.move rfl rfl) ?_
  refine E.GL.run rfl rfl rfl (E.Runs.loads (cs := [.slice Ar l.length cr, .slice Ac l.length cc, .int .i64 ra]) rfl rfl hu49 rfl info49s (blk_cells b6)) ?_
  refine E.GL.st rfl rfl rfl (E.ST.call rfl ent24 (E.evc rfl (E.evc rfl (E.evc rfl E.evn))) ((run_row H l rs cs ra A1 Ar Ac c1 cr cc _ hn R X (Kd.C_below hr L) hc (Kd.C_below hR L) (Kd.C_below hC L)).mono ?_))
  rintro e w15 ⟨Ae, ce, rfl, ke, re, l15⟩
  refine ⟨_, rfl, ?_⟩
  replace b4 := blk_below b4 l15
  replace b6 := blk_below b6 l15
  replace L := below_step L l15
  refine E.GL.run rfl rfl rfl (E.Runs.assign rfl rfl) ?_
  refine E.GL.done ?_
  refine E.QG.code ?_
  refine E.CG.seq ?_
  refine E.CG.list ?_
  refine E.GL.run rfl rfl rfl (E.Runs.assign rfl rfl) ?_
  refine E.GL.done ?_
  refine E.QG.code ?_
  refine E.CG.seq ?_
  refine E.CG.seq ?_
  refine E.CG.list ?_
  refine E.GL.run rfl rfl rfl (E.Runs.assign rfl rfl) ?_
  refine E.GL.done ?_
  refine E.QG.code ?_
  refine E.CG.block ?_
  have s4_b4 := b4
  have s4_b6 := b6
  have s4_L := L
  refine E.CG.loop (fun (i : Nat) => [(1, .slice A1 l.length c1), (3, .int .i64 m), (4, .pointer (some ⟨g4, 0, none⟩)), (6, .pointer (some ⟨g6, 0, none⟩)), (9, .slice Ae l.length ce), (10, .int .i64 (waitSum (pcR ra) H m (l.take i) ((dayT (⟨ra, H.walk, H.early⟩ : Rt) (items l rs cs)).take i))), (11, .int .i64 i)]) (fun i w' => i ≤ l.length ∧ Below w15.heap.size w15 w') (fun i => l.length - i) 0 (E.subc rfl (E.subc rfl (E.subc rfl (E.subc rfl (E.subc rfl (E.subc rfl (E.subc rfl (E.subn)))))))) ⟨Nat.zero_le _, Below.refl _ _⟩ ?_
  rintro i w4 ⟨hi, lq⟩
  replace b4 := blk_below b4 lq
  replace b6 := blk_below b6 lq
  replace L := below_step L lq
  refine E.CG.seq ?_
  refine E.CG.seq ?_
  refine E.CG.list ?_
  refine E.GL.run rfl rfl rfl (E.Runs.move rfl rfl) ?_
  refine E.GL.run rfl rfl rfl (E.Runs.move rfl rfl) ?_
  refine E.GL.run rfl rfl rfl (E.Runs.len rfl rfl hu26) ?_
  refine E.GL.cmp rfl rfl rfl (fun _ h => (E.Runs.lss rfl rfl rfl h)) (fun h19 => ?_) (fun h19 => ?_)
  · have hlt : i < l.length := by omega
    obtain ⟨s, hs⟩ : ∃ s, l[i]? = some s := ⟨_, List.getElem?_eq_getElem hlt⟩
    obtain ⟨a, ha⟩ : ∃ a, rs[i]? = some a := ⟨_, List.getElem?_eq_getElem (by omega)⟩
    obtain ⟨b, hb⟩ : ∃ b, cs[i]? = some b := ⟨_, List.getElem?_eq_getElem (by omega)⟩
    have hx := items_get l rs cs i s a b hs ha hb
    obtain ⟨t, ht⟩ : ∃ t, (dayT (⟨ra, H.walk, H.early⟩ : Rt) (items l rs cs))[i]? = some t := ⟨_, List.getElem?_eq_getElem (by rw [dayT_length, hxl]; exact hlt)⟩
    obtain ⟨q1, q2, q3⟩ := run_nums R X hx ht
    have hall : ∀ s ∈ l.take i, 0 ≤ s.f3 ∧ s.f3 ≤ 1000 := by
      intro y hy
      obtain ⟨j, hj⟩ := List.mem_iff_getElem?.mp (List.mem_of_mem_take hy)
      have hjl : j < l.length := (List.getElem?_eq_some_iff.1 hj).1
      obtain ⟨a', ha'⟩ : ∃ a, rs[j]? = some a := ⟨_, List.getElem?_eq_getElem (by omega)⟩
      obtain ⟨b', hb'⟩ : ∃ b, cs[j]? = some b := ⟨_, List.getElem?_eq_getElem (by omega)⟩
      have := X _ (List.mem_of_getElem? (items_get l rs cs j y a' b' hj ha' hb'))
      exact ⟨this.p0, this.p1⟩
    have hsum := waitSum_b (p := pcR ra) (H := H) (m := m) (show 0 ≤ ra by omega) (l.take i) ((dayT (⟨ra, H.walk, H.early⟩ : Rt) (items l rs cs)).take i) hall
    have hlen : ((l.take i).length : Int) ≤ 100 := by rw [List.length_take]; omega
    have hmul : 0 ≤ ra * mx 0 (m - t.enter + 1) ∧ ra * mx 0 (m - t.enter + 1) ≤ 1000 * 20000 := by
      have h1 : 0 ≤ mx 0 (m - t.enter + 1) ∧ mx 0 (m - t.enter + 1) ≤ 20000 := by unfold mx; split <;> omega
      exact ⟨Int.mul_nonneg (by omega) h1.1, Int.mul_le_mul (by omega) h1.2 h1.1 (by omega)⟩
    have hmn : 0 ≤ mn s.f3 (ra * mx 0 (m - t.enter + 1)) ∧ mn s.f3 (ra * mx 0 (m - t.enter + 1)) ≤ 1000 := by unfold mn; split <;> omega
    have hqs := waitSum_take (p := pcR ra) (H := H) (m := m) hs ht
    have hwo : waitOne (pcR ra) H s t m = if max 0 (s.f1 - H.early) ≤ m then s.f3 - mn s.f3 (ra * mx 0 (m - t.enter + 1)) else 0 := rfl
    obtain ⟨ad, eA, S⟩ := slot_at hr hs
    obtain ⟨ae, eT, T⟩ := tm_at re ht
    refine E.GL.done ?_
    refine E.QG.code ?_
    refine E.CG.cond_t rfl ?_
    refine E.CG.skip ?_
    refine E.QG.code ?_
    refine E.CG.seq ?_
    refine E.CG.block ?_
    refine E.CG.seq ?_
    refine E.CG.seq ?_
    refine E.CG.quietF (by kernel_rfl) rfl (by kernel_rfl) (by kernel_rfl) ?_
    refine E.GQ.run rfl rfl rfl (E.Runs.move rfl rfl) ?_
    refine E.GQ.run rfl rfl rfl (E.Runs.move rfl rfl) ?_
    refine E.GQ.run rfl rfl rfl (E.Runs.move rfl rfl) ?_
    refine E.GQ.run rfl rfl rfl (E.Runs.indexAddrA rfl rfl rfl hu26 (by assumption) (by assumption) (by assumption) (by first | rfl | assumption) rfl) ?_
    refine E.GQ.run rfl rfl rfl (E.Runs.fieldAddr rfl rfl hu36 rfl (by assumption) rfl) ?_
    refine E.GQ.run rfl rfl rfl (E.Runs.load rfl rfl hu3 (by first | assumption | exact E.blkc (by assumption) rfl | exact pw_cell_below L (by assumption) | exact pw_cell_below lq (by assumption) | exact pw_cell_below L S.c0 | exact pw_cell_below L S.c1 | exact pw_cell_below L S.c2 | exact pw_cell_below L S.c3 | exact pw_cell_below L S.c4 | exact pw_cell_below L S.c5 | exact pw_cell_below lq T.c0 | exact pw_cell_below lq T.c1 | exact pw_cell_below lq T.c2 | exact pw_cell_below lq T.c3 | exact pw_cell_below lq T.c4)) ?_
    refine E.GQ.run rfl rfl rfl (E.Runs.fieldAddr rfl rfl hu25 rfl (by assumption) rfl) ?_
    refine E.GQ.run rfl rfl rfl (E.Runs.load rfl rfl hu3 (by first | assumption | exact E.blkc (by assumption) rfl | exact pw_cell_below L (by assumption) | exact pw_cell_below lq (by assumption) | exact pw_cell_below L S.c0 | exact pw_cell_below L S.c1 | exact pw_cell_below L S.c2 | exact pw_cell_below L S.c3 | exact pw_cell_below L S.c4 | exact pw_cell_below L S.c5 | exact pw_cell_below lq T.c0 | exact pw_cell_below lq T.c1 | exact pw_cell_below lq T.c2 | exact pw_cell_below lq T.c3 | exact pw_cell_below lq T.c4)) ?_
    refine E.GQ.run rfl rfl rfl (E.Runs.sub rfl rfl rfl (IntWalk.i64_in _ (by omega))) ?_
    refine E.GQ.run rfl rfl rfl (E.Runs.max rfl rfl rfl rfl) ?_
    refine E.GQ.cmp rfl rfl rfl (fun _ h => (E.Runs.lss rfl rfl rfl h)) (fun h32 => ?_) (fun h32 => ?_)
    · have qS := hqs.trans (by rw [hwo, if_neg (by rw [← mx_max]; omega), Int.add_zero])
      refine E.GQ.doneB fun v6 lD => ?_
      replace b4 := blk_below b4 lD
      replace b6 := blk_below b6 lD
      replace L := below_step L lD
      replace lq := below_step lq lD
      clear lD
      refine E.QG.code ?_
      refine E.CG.cond_t rfl ?_
      refine E.CG.exit ?_
      refine E.QG.pass_exit ?_
      refine E.QG.block_here ?_
      refine E.QG.code ?_
      refine E.CG.list ?_
      refine E.GL.run rfl rfl rfl (E.Runs.move rfl rfl) ?_
      refine E.GL.run rfl rfl rfl (E.Runs.add rfl rfl rfl (IntWalk.i64_in _ (by omega))) ?_
      refine E.GL.run rfl rfl rfl (E.Runs.assign rfl rfl) ?_
      refine E.GL.done ?_
      exact E.QG.round (i + 1) (E.subc rfl (E.subc rfl (E.subc rfl (E.subc rfl (E.subc rfl (E.subc (by rw [qS]; rfl) (E.subc rfl E.subn))))))) ⟨by omega, lq⟩ (by omega)
    · have qS := hqs.trans (by rw [hwo, if_pos (by rw [← mx_max]; omega)])
      refine E.GQ.doneB fun v6 lD => ?_
      replace b4 := blk_below b4 lD
      replace b6 := blk_below b6 lD
      replace L := below_step L lD
      replace lq := below_step lq lD
      clear lD
      refine E.QG.code ?_
      refine E.CG.cond_f rfl ?_
      refine E.CG.skip ?_
      refine E.QG.code ?_
      refine E.CG.quietF (by kernel_rfl) rfl (by kernel_rfl) (by kernel_rfl) ?_
      refine E.GQ.run rfl rfl rfl (E.Runs.move rfl rfl) ?_
      refine E.GQ.run rfl rfl rfl (E.Runs.move rfl rfl) ?_
      refine E.GQ.run rfl rfl rfl (E.Runs.move rfl rfl) ?_
      refine E.GQ.run rfl rfl rfl (E.Runs.indexAddrA rfl rfl rfl hu26 (by assumption) (by assumption) (by assumption) (by first | rfl | assumption) rfl) ?_
      refine E.GQ.run rfl rfl rfl (E.Runs.fieldAddr rfl rfl hu36 rfl (by assumption) rfl) ?_
      refine E.GQ.run rfl rfl rfl (E.Runs.load rfl rfl hu3 (by first | assumption | exact E.blkc (by assumption) rfl | exact pw_cell_below L (by assumption) | exact pw_cell_below lq (by assumption) | exact pw_cell_below L S.c0 | exact pw_cell_below L S.c1 | exact pw_cell_below L S.c2 | exact pw_cell_below L S.c3 | exact pw_cell_below L S.c4 | exact pw_cell_below L S.c5 | exact pw_cell_below lq T.c0 | exact pw_cell_below lq T.c1 | exact pw_cell_below lq T.c2 | exact pw_cell_below lq T.c3 | exact pw_cell_below lq T.c4)) ?_
      refine E.GQ.run rfl rfl rfl (E.Runs.move rfl rfl) ?_
      refine E.GQ.run rfl rfl rfl (E.Runs.move rfl rfl) ?_
      refine E.GQ.run rfl rfl rfl (E.Runs.indexAddrA rfl rfl rfl hu26 (by assumption) (by assumption) (by assumption) (by first | rfl | assumption) rfl) ?_
      refine E.GQ.run rfl rfl rfl (E.Runs.fieldAddr rfl rfl hu36 rfl (by assumption) rfl) ?_
      refine E.GQ.run rfl rfl rfl (E.Runs.load rfl rfl hu3 (by first | assumption | exact E.blkc (by assumption) rfl | exact pw_cell_below L (by assumption) | exact pw_cell_below lq (by assumption) | exact pw_cell_below L S.c0 | exact pw_cell_below L S.c1 | exact pw_cell_below L S.c2 | exact pw_cell_below L S.c3 | exact pw_cell_below L S.c4 | exact pw_cell_below L S.c5 | exact pw_cell_below lq T.c0 | exact pw_cell_below lq T.c1 | exact pw_cell_below lq T.c2 | exact pw_cell_below lq T.c3 | exact pw_cell_below lq T.c4)) ?_
      refine E.GQ.run rfl rfl rfl (E.Runs.fieldAddr rfl rfl hu49 rfl (by assumption) rfl) ?_
      refine E.GQ.run rfl rfl rfl (E.Runs.load rfl rfl hu3 (by first | assumption | exact E.blkc (by assumption) rfl | exact pw_cell_below L (by assumption) | exact pw_cell_below lq (by assumption) | exact pw_cell_below L S.c0 | exact pw_cell_below L S.c1 | exact pw_cell_below L S.c2 | exact pw_cell_below L S.c3 | exact pw_cell_below L S.c4 | exact pw_cell_below L S.c5 | exact pw_cell_below lq T.c0 | exact pw_cell_below lq T.c1 | exact pw_cell_below lq T.c2 | exact pw_cell_below lq T.c3 | exact pw_cell_below lq T.c4)) ?_
      refine E.GQ.run rfl rfl rfl (E.Runs.move rfl rfl) ?_
      refine E.GQ.run rfl rfl rfl (E.Runs.move rfl rfl) ?_
      refine E.GQ.run rfl rfl rfl (E.Runs.move rfl rfl) ?_
      refine E.GQ.run rfl rfl rfl (E.Runs.indexAddrA rfl rfl rfl hu53 (by assumption) (by assumption) (by assumption) (by first | rfl | assumption) rfl) ?_
      refine E.GQ.run rfl rfl rfl (E.Runs.fieldAddr rfl rfl hu56 rfl (by assumption) rfl) ?_
      refine E.GQ.run rfl rfl rfl (E.Runs.load rfl rfl hu3 (by first | assumption | exact E.blkc (by assumption) rfl | exact pw_cell_below L (by assumption) | exact pw_cell_below lq (by assumption) | exact pw_cell_below L S.c0 | exact pw_cell_below L S.c1 | exact pw_cell_below L S.c2 | exact pw_cell_below L S.c3 | exact pw_cell_below L S.c4 | exact pw_cell_below L S.c5 | exact pw_cell_below lq T.c0 | exact pw_cell_below lq T.c1 | exact pw_cell_below lq T.c2 | exact pw_cell_below lq T.c3 | exact pw_cell_below lq T.c4)) ?_
      refine E.GQ.run rfl rfl rfl (E.Runs.sub rfl rfl rfl (IntWalk.i64_in _ (by omega))) ?_
      refine E.GQ.run rfl rfl rfl (E.Runs.add rfl rfl rfl (IntWalk.i64_in _ (by omega))) ?_
      refine E.GQ.run rfl rfl rfl (E.Runs.max rfl rfl rfl rfl) ?_
      refine E.GQ.run rfl rfl rfl (E.Runs.mul rfl rfl rfl (IntWalk.i64_in _ (by omega))) ?_
      refine E.GQ.run rfl rfl rfl (E.Runs.min rfl rfl rfl rfl) ?_
      refine E.GQ.run rfl rfl rfl (E.Runs.sub rfl rfl rfl (IntWalk.i64_in _ (by omega))) ?_
      refine E.GQ.run rfl rfl rfl (E.Runs.add rfl rfl rfl (IntWalk.i64_in _ (by omega))) ?_
      refine E.GQ.run rfl rfl rfl (E.Runs.assign rfl rfl) ?_
      refine E.GQ.doneB fun v7 lD => ?_
      replace b4 := blk_below b4 lD
      replace b6 := blk_below b6 lD
      replace L := below_step L lD
      replace lq := below_step lq lD
      clear lD
      refine E.QG.block_normal ?_
      refine E.QG.code ?_
      refine E.CG.list ?_
      refine E.GL.run rfl rfl rfl (E.Runs.move rfl rfl) ?_
      refine E.GL.run rfl rfl rfl (E.Runs.add rfl rfl rfl (IntWalk.i64_in _ (by omega))) ?_
      refine E.GL.run rfl rfl rfl (E.Runs.assign rfl rfl) ?_
      refine E.GL.done ?_
      exact E.QG.round (i + 1) (E.subc rfl (E.subc rfl (E.subc rfl (E.subc rfl (E.subc rfl (E.subc (by rw [qS]; rfl) (E.subc rfl E.subn))))))) ⟨by omega, lq⟩ (by omega)
  · obtain rfl : i = l.length := by omega
    have hfin : waitSum (pcR ra) H m (l.take l.length) ((dayT (⟨ra, H.walk, H.early⟩ : Rt) (items l rs cs)).take l.length) = waitSum (pcR ra) H m l (dayT (⟨ra, H.walk, H.early⟩ : Rt) (items l rs cs)) := by
      rw [List.take_of_length_le (Nat.le_refl _), List.take_of_length_le (by rw [dayT_length, hxl]; omega)]
    refine E.GL.done ?_
    refine E.QG.code ?_
    refine E.CG.cond_f rfl ?_
    refine E.CG.exit ?_
    refine E.QG.pass_exit ?_
    refine E.QG.pass_exit ?_
    refine E.QG.block_here ?_
    refine E.QG.code ?_
    refine E.CG.seq ?_
    refine E.CG.list ?_
    refine E.GL.run rfl rfl rfl (E.Runs.move rfl rfl) ?_
    refine E.GL.run rfl rfl rfl (E.Runs.assign rfl rfl) ?_
    refine E.GL.done ?_
    refine E.QG.code ?_
    refine E.CG.ret ?_
    exact E.QG.result rfl rfl ⟨by rw [hfin], L⟩

/-- The first minute at which too many can wait, of those at which a crowd comes. -/
def crowdT (H : Hs) (l : List S36) : List S36 → Int
  | [] => -1
  | s :: r => if H.foyer < waitT (pcL H) H l (max 0 (s.f1 - H.early)) then max 0 (s.f1 - H.early) else crowdT H l r
theorem crowdT_at {H : Hs} {l : List S36} {k : Nat} {s : S36} (h : l[k]? = some s) : crowdT H l (l.drop k) = if H.foyer < waitT (pcL H) H l (max 0 (s.f1 - H.early)) then max 0 (s.f1 - H.early) else crowdT H l (l.drop (k + 1)) := by
  obtain ⟨h1, rfl⟩ := List.getElem?_eq_some_iff.1 h
  rw [List.drop_eq_getElem_cons h1]
  rfl
set_option maxRecDepth 100000 in
set_option maxHeartbeats 8000000 in

theorem crowded_row (H : Hs) (l : List S36) (A1 : Option Addr) (c1 : Nat) (w : World) (h : Valid H l) (hr : Kd.C k36 w A1 l.length l) (hc : l.length ≤ c1) :
    Calls Try.prog 27 #[hv H, .slice A1 l.length c1] w fun e w' => e = .returned (.tuple #[.int .i64 (crowdT H l l), .int .i64 0]) ∧ Below w.heap.size w w' := by
  have hu3 := Try.underlying3
  have hu25 := Try.underlying25
  have hu26 := Try.underlying26
  have hu36 := Try.underlying36
  obtain ⟨z3, o3⟩ := info_some info3s (by decide)
  obtain ⟨z36, o36⟩ := info_some info36s (by decide)
  have hE : checkE H l = 0 := (checkE_valid H l).mpr h
  have hn := h.2.1
  have hH := h.1
  refine E.enter (N := 36) Try.func27 rfl Try.ntmps27 (args := [hv H, .slice A1 l.length c1]) (by simp) ?_
  have L := Below.refl w.heap.size w
  refine E.CG.seq ?_
  refine E.CG.list ?_
  refine E.GL.st rfl rfl rfl (E.ST.box rfl rfl fun g2 w2 e2 b2 l2 => ?_)
  have h2_L : w.heap.size ≤ g2 := by rw [e2]; exact L.size
  replace L := below_step L l2
  refine E.GL.run rfl rfl rfl (E.Runs.assign rfl rfl) ?_
  refine E.GL.run rfl rfl rfl (E.Runs.assign rfl rfl) ?_
  refine E.GL.done ?_
  refine E.QG.code ?_
  refine E.CG.seq ?_
  refine E.CG.seq ?_
  refine E.CG.list ?_
  refine E.GL.run rfl rfl rfl (E.Runs.loads (cs := [.int .i64 H.teams, .int .i64 H.walk, .int .i64 H.early, .int .i64 H.foyer, .int .i64 H.dl, .int .i64 H.dh, .int .i64 H.cl, .int .i64 H.ch]) rfl rfl hu25 rfl info25s (blk_cells b2)) ?_
  refine E.GL.run rfl rfl rfl (E.Runs.move rfl rfl) ?_
  refine E.GL.st rfl rfl rfl (E.ST.call rfl ent29 (E.evc rfl (E.evc rfl E.evn)) ((check_calls H l A1 c1 _ (by omega) (Kd.C_below hr L) hc).mono ?_))
  rintro e w12 ⟨rfl, l12⟩
  refine ⟨_, rfl, ?_⟩
  replace b2 := blk_below b2 l12
  replace L := below_step L l12
  rw [hE]
  refine E.GL.run rfl rfl rfl (E.Runs.assign rfl rfl) ?_
  refine E.GL.done ?_
  refine E.QG.code ?_
  refine E.CG.seq ?_
  refine E.CG.list ?_
  refine E.GL.run rfl rfl rfl (E.Runs.move rfl rfl) ?_
  refine E.GL.run rfl rfl rfl (E.Runs.neq rfl rfl rfl (E.ne_f rfl)) ?_
  refine E.GL.done ?_
  refine E.QG.code ?_
  refine E.CG.cond_f rfl ?_
  refine E.CG.skip ?_
  refine E.QG.code ?_
  refine E.CG.seq ?_
  refine E.CG.seq ?_
  refine E.CG.list ?_
  refine E.GL.run rfl rfl rfl (E.Runs.move rfl rfl) ?_
  refine E.GL.run rfl rfl rfl (E.Runs.len rfl rfl hu26) ?_
  refine E.GL.run rfl rfl rfl (E.Runs.move rfl rfl) ?_
  refine E.GL.done ?_
  refine E.QG.code ?_
  refine E.CG.block ?_
  have s5_b2 := b2
  have s5_L := L
  refine E.CG.loop (fun (k : Nat) => [(1, .slice A1 l.length c1), (2, .pointer (some ⟨g2, 0, none⟩)), (16, .slice A1 l.length c1), (17, .int .i64 l.length), (18, .int .i64 k)]) (fun k w' => k ≤ l.length ∧ Below w12.heap.size w12 w' ∧ crowdT H l l = crowdT H l (l.drop k)) (fun k => l.length - k) 0 (E.subc rfl (E.subc rfl (E.subc rfl (E.subc rfl (E.subc rfl (E.subn)))))) ⟨Nat.zero_le _, Below.refl _ _, rfl⟩ ?_
  rintro k w5 ⟨hk, lq, hq⟩
  replace b2 := blk_below b2 lq
  replace L := below_step L lq
  refine E.CG.seq ?_
  refine E.CG.list ?_
  refine E.GL.cmp rfl rfl rfl (fun _ h => (E.Runs.lss rfl rfl rfl h)) (fun h19 => ?_) (fun h19 => ?_)
  · have hlt : k < l.length := by omega
    obtain ⟨s, hs⟩ : ∃ s, l[k]? = some s := ⟨_, List.getElem?_eq_getElem hlt⟩
    have SI := valid_slots h s (List.mem_of_getElem? hs)
    have sb := SI.2
    obtain ⟨ad, eA, S⟩ := slot_at hr hs
    refine E.GL.done ?_
    refine E.QG.code ?_
    refine E.CG.seq ?_
    refine E.CG.cond_t rfl ?_
    refine E.CG.skip ?_
    refine E.QG.code ?_
    refine E.CG.seq ?_
    refine E.CG.block ?_
    refine E.CG.seq ?_
    refine E.CG.list ?_
    refine E.GL.run rfl rfl rfl (E.Runs.indexAddrA rfl rfl rfl hu26 (by assumption) (by assumption) (by assumption) (by first | rfl | assumption) rfl) ?_
    refine E.GL.run rfl rfl rfl (E.Runs.loads (cs := [.int .i64 s.f0, .int .i64 s.f1, .int .i64 s.f2.f0, .int .i64 s.f2.f1, .int .i64 s.f3, .int .i64 s.f4]) rfl rfl hu36 rfl info36s (E.cellsB L S.cells)) ?_
    refine E.GL.st rfl rfl rfl (E.ST.alloc rfl info36z fun g8 w8 e8 b8 l8 => ?_)
    have h8_L : w.heap.size ≤ g8 := by rw [e8]; exact L.size
    have h8_lq : w12.heap.size ≤ g8 := by rw [e8]; exact lq.size
    have n8_b2 : g2 ≠ g8 := by have := blk_lt b2; omega
    replace b2 := blk_below b2 l8
    replace L := below_step L l8
    replace lq := below_step lq l8
    refine E.GL.store_whole rfl rfl rfl rfl rfl b8 rfl info36s (six_one _ _ _ _ _ _) fun wS6_3 c8 lS6_3 => ?_
    replace b2 := blk_grown b2 lS6_3 (E.nes (by first | assumption | exact Ne.symm (by assumption)))
    replace L := E.below_own L h8_L lS6_3
    replace lq := E.below_own lq h8_lq lS6_3
    replace b8 := c8
    clear c8
    refine E.GL.done ?_
    refine E.QG.code ?_
    refine E.CG.seq ?_
    refine E.CG.list ?_
    refine E.GL.run rfl rfl rfl (E.Runs.loads (cs := [.int .i64 H.teams, .int .i64 H.walk, .int .i64 H.early, .int .i64 H.foyer, .int .i64 H.dl, .int .i64 H.dh, .int .i64 H.cl, .int .i64 H.ch]) rfl rfl hu25 rfl info25s (blk_cells b2)) ?_
    refine E.GL.run rfl rfl rfl (E.Runs.loads (cs := [.int .i64 s.f0, .int .i64 s.f1, .int .i64 s.f2.f0, .int .i64 s.f2.f1, .int .i64 s.f3, .int .i64 s.f4]) rfl rfl hu36 rfl info36s (blk_cells b8)) ?_
    refine E.GL.st rfl rfl rfl (E.ST.call rfl ent54 (E.evc rfl (E.evc rfl E.evn)) ((comes_calls H s _ (by unfold HouseOk at hH; omega) (by unfold HouseOk at hH; omega) SI.2.1 (by omega)).mono ?_))
    rintro e w24 ⟨rfl, l24⟩
    refine ⟨_, rfl, ?_⟩
    replace b2 := blk_below b2 l24
    replace b8 := blk_below b8 l24
    replace L := below_step L l24
    replace lq := below_step lq l24
    refine E.GL.run rfl rfl rfl (E.Runs.assign rfl rfl) ?_
    refine E.GL.done ?_
    refine E.QG.code ?_
    refine E.CG.seq ?_
    refine E.CG.heldH (none) (by kernel_rfl) fun v8 lD hh => ?_
    replace b2 := blk_below b2 lD
    replace b8 := blk_below b8 lD
    replace L := below_step L lD
    replace lq := below_step lq lD
    clear lD
    have s_b2 := b2
    have s_b8 := b8
    have s_L := L
    have s_lq := lq
    refine E.GH.take (i := 0) rfl (by kernel_rfl) (by kernel_rfl) (by kernel_rfl) (by intro c a d v w h; cases d <;> exact h) rfl rfl rfl (fun w' hS => (E.Runs.loads (cs := [.int .i64 H.teams, .int .i64 H.walk, .int .i64 H.early, .int .i64 H.foyer, .int .i64 H.dl, .int .i64 H.dh, .int .i64 H.cl, .int .i64 H.ch]) rfl rfl hu25 rfl info25s (blk_cells (blk_grown s_b2 hS E.nen)))) ?_
    refine E.GH.take (i := 1) rfl (by kernel_rfl) (by kernel_rfl) (by kernel_rfl) (by intro c a d v w h; cases d <;> exact h) rfl rfl rfl (fun w' hS => (E.Runs.move rfl rfl)) ?_
    refine E.GH.take (i := 2) rfl (by kernel_rfl) (by kernel_rfl) (by kernel_rfl) (by intro c a d v w h; cases d <;> exact h) rfl rfl rfl (fun w' hS => (E.Runs.loads (cs := [.int .i64 H.teams, .int .i64 H.walk, .int .i64 H.early, .int .i64 H.foyer, .int .i64 H.dl, .int .i64 H.dh, .int .i64 H.cl, .int .i64 H.ch]) rfl rfl hu25 rfl info25s (blk_cells (blk_grown s_b2 hS E.nen)))) ?_
    refine E.GH.take (i := 4) rfl (by kernel_rfl) (by kernel_rfl) (by kernel_rfl) (by intro c a d v w h; cases d <;> exact h) rfl rfl rfl (fun w' hS => (E.Runs.move rfl rfl)) ?_
    refine E.GH.take (i := 6) rfl (by kernel_rfl) (by kernel_rfl) (by kernel_rfl) (by intro c a d v w h; cases d <;> exact h) rfl rfl rfl (fun w' hS => (E.Runs.fieldAddr rfl rfl hu25 rfl (by assumption) rfl)) ?_
    refine E.GH.take (i := 7) rfl (by kernel_rfl) (by kernel_rfl) (by kernel_rfl) (by intro c a d v w h; cases d <;> exact h) rfl rfl rfl (fun w' hS => (E.Runs.load rfl rfl hu3 (by first | exact E.keeps hS (E.blkc (by assumption) rfl) (by first | exact E.nen | exact E.nes (by assumption) | exact E.nes (Ne.symm (by assumption))) | exact pw_cell_below (below_step s_L (E.belowG hS)) (by assumption) | exact pw_cell_below (below_step s_L (E.belowG hS)) S.c0 | exact pw_cell_below (below_step s_L (E.belowG hS)) S.c1 | exact pw_cell_below (below_step s_L (E.belowG hS)) S.c2 | exact pw_cell_below (below_step s_L (E.belowG hS)) S.c3 | exact pw_cell_below (below_step s_L (E.belowG hS)) S.c4 | exact pw_cell_below (below_step s_L (E.belowG hS)) S.c5 | exact pw_cell_below (below_step s_lq (E.belowG hS)) (by assumption)))) ?_
    refine E.GH.one (i := 3) (by kernel_rfl) rfl ?_
    refine E.GO.st rfl rfl rfl (E.ST.call rfl ent43 (E.evc rfl E.evn) ((late_calls H _).mono ?_))
    rintro e w28 ⟨rfl, l28⟩
    refine ⟨_, rfl, hh.trans (E.gbB l28), ?_⟩
    replace hh := hh.trans (E.gbB l28)
    replace b2 := blk_below b2 l28
    replace b8 := blk_below b8 l28
    replace L := below_step L l28
    replace lq := below_step lq l28
    refine E.GH.one (i := 5) (by kernel_rfl) rfl ?_
    refine E.GO.st rfl rfl rfl (E.ST.call rfl ent53 (E.evc rfl (E.evc rfl (E.evc rfl (E.evc rfl E.evn)))) ((waiting_late H l (max 0 (s.f1 - H.early)) A1 c1 _ hH (valid_slots h) (by omega) (by omega) (by unfold HouseOk at hH; omega) (Kd.C_below hr L) hc).mono ?_))
    rintro e w30 ⟨rfl, l30⟩
    refine ⟨_, rfl, hh.trans (E.gbB l30), ?_⟩
    replace hh := hh.trans (E.gbB l30)
    replace b2 := blk_below b2 l30
    replace b8 := blk_below b8 l30
    replace L := below_step L l30
    replace lq := below_step lq l30
    refine E.GH.cmp (i := 8) rfl (by kernel_rfl) (by kernel_rfl) (by kernel_rfl) (by intro c a d v w h; cases d <;> exact h) rfl rfl rfl (fun _ h w' hS => (E.Runs.gtr rfl rfl rfl h)) (fun h33 => ?_) (fun h33 => ?_)
    · refine E.GH.done (by kernel_rfl) ?_
      refine E.QG.code ?_
      refine E.CG.cond_t rfl ?_
      refine E.CG.seq ?_
      refine E.CG.list ?_
      refine E.GL.run rfl rfl rfl (E.Runs.move rfl rfl) ?_
      refine E.GL.run rfl rfl rfl (E.Runs.assign rfl rfl) ?_
      refine E.GL.run rfl rfl rfl (E.Runs.assign rfl rfl) ?_
      refine E.GL.done ?_
      refine E.QG.code ?_
      refine E.CG.ret ?_
      refine E.QG.block_ret ?_
      refine E.QG.pass_ret ?_
      refine E.QG.pass_ret ?_
      refine E.QG.block_ret ?_
      refine E.QG.pass_ret ?_
      exact E.QG.result2 rfl rfl rfl ⟨by rw [hq, crowdT_at hs, if_pos h33], L⟩
    · refine E.GH.done (by kernel_rfl) ?_
      refine E.QG.code ?_
      refine E.CG.cond_f rfl ?_
      refine E.CG.skip ?_
      refine E.QG.block_normal ?_
      refine E.QG.code ?_
      refine E.CG.list ?_
      refine E.GL.run rfl rfl rfl (E.Runs.add rfl rfl rfl (IntWalk.i64_in _ (by omega))) ?_
      refine E.GL.run rfl rfl rfl (E.Runs.move rfl rfl) ?_
      refine E.GL.done ?_
      exact E.QG.round (k + 1) (E.subc rfl (E.subc rfl (E.subc rfl (E.subc rfl (E.subc rfl E.subn))))) ⟨by omega, lq, by rw [hq, crowdT_at hs, if_neg h33]⟩ (by omega)
  · refine E.GL.done ?_
    refine E.QG.code ?_
    refine E.CG.seq ?_
    refine E.CG.cond_f rfl ?_
    refine E.CG.exit ?_
    refine E.QG.pass_exit ?_
    refine E.QG.pass_exit ?_
    refine E.QG.block_here ?_
    refine E.QG.code ?_
    refine E.CG.seq ?_
    refine E.CG.list ?_
    refine E.GL.run rfl rfl rfl (E.Runs.assign rfl rfl) ?_
    refine E.GL.run rfl rfl rfl (E.Runs.assign rfl rfl) ?_
    refine E.GL.done ?_
    refine E.QG.code ?_
    refine E.CG.ret ?_
    exact E.QG.result2 rfl rfl rfl ⟨by rw [hq, List.drop_eq_nil_of_le (by omega)]; rfl, L⟩

end Go.Proofs.Ythdbkhdiaehblaa.T
