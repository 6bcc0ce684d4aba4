/- The document's own text: the truths, what is kept, the days: the walks. -/
import Derived.Test.YtbajpjnloikpdaaP8
namespace Go.Proofs.Ytbajpjnloikpdaa.T
open Go.RowKit Go.Proofs.YtbajpjnloikpdaaW.PrintWords Go.Proofs.YtbajpjnloikpdaaW.PrintMore
open Go.Proofs.Ytbajpjnloikpdaa.P
set_option linter.unusedVariables false
set_option linter.unusedSimpArgs false

def rf (M : Lm) (l : List Ln) : List Ln := l.filter fun x => ((wrongs M x).length : Int) ≤ M.wr
theorem rf_in {M : Lm} {l : List Ln} {i : Nat} {x : Ln} (hx : l[i]? = some x) (k : ((wrongs M x).length : Int) ≤ M.wr) : rf M (l.take (i + 1)) = rf M (l.take i) ++ [x] := by
  unfold rf
  rw [List.take_add_one, hx]
  simp [List.filter_append, k]
theorem rf_out {M : Lm} {l : List Ln} {i : Nat} {x : Ln} (hx : l[i]? = some x) (k : ¬ ((wrongs M x).length : Int) ≤ M.wr) : rf M (l.take (i + 1)) = rf M (l.take i) := by
  unfold rf
  rw [List.take_add_one, hx]
  simp [List.filter_append, k]
theorem rf_few (M : Lm) (l : List Ln) (i : Nat) : (rf M (l.take i)).length ≤ i := by
  unfold rf
  have := List.length_filter_le (fun x => decide (((wrongs M x).length : Int) ≤ M.wr)) (l.take i)
  rw [List.length_take] at this
  omega
open Classical in
/-- Of how many truths something is so. -/
noncomputable def cntP (p : Ln → Prop) (t : List Ln) : Nat := (t.filter fun x => p x).length
theorem cntP_in {p : Ln → Prop} {t : List Ln} {i : Nat} {x : Ln} (hx : t[i]? = some x) (k : p x) : (cntP p (t.take (i + 1)) : Int) = (cntP p (t.take i) : Int) + 1 := by
  unfold cntP
  rw [List.take_add_one, hx]
  simp [List.filter_append, k]
theorem cntP_out {p : Ln → Prop} {t : List Ln} {i : Nat} {x : Ln} (hx : t[i]? = some x) (k : ¬ p x) : (cntP p (t.take (i + 1)) : Int) = (cntP p (t.take i) : Int) := by
  unfold cntP
  rw [List.take_add_one, hx]
  simp [List.filter_append, k]
theorem cntP_le (p : Ln → Prop) (t : List Ln) : cntP p t ≤ t.length := by unfold cntP; exact List.length_filter_le _ _
theorem cntP_full {p : Ln → Prop} {t : List Ln} : cntP p t = t.length ↔ ∀ x ∈ t, p x := by
  unfold cntP
  rw [List.length_filter_eq_length_iff]
  simp
theorem cntP_zero {p : Ln → Prop} {t : List Ln} : cntP p t = 0 ↔ ∀ x ∈ t, ¬ p x := by
  unfold cntP
  rw [List.length_eq_zero_iff, List.filter_eq_nil_iff]
  simp
theorem cntK_full {a b h : Int} {t : List Ln} : cntK a b t h = t.length ↔ ∀ x ∈ t, isK a b x h := by
  unfold cntK
  rw [List.length_filter_eq_length_iff]
  simp
theorem keepsT_one {a b h : Int} {t : List Ln} : keepsT a b t h = 1 ↔ ∀ x ∈ t, isK a b x h := by
  rw [← cntK_full]
  unfold keepsT
  split
  · next q => exact iff_of_true rfl q
  · next q =>
    refine iff_of_false ?_ q
    split <;> decide
/-- The norm is kept in a truth from one hour to another one. -/
def isKs (a b : Int) (f u : Int) (x : Ln) : Prop := ∀ h : Int, f ≤ h → h ≤ u → isK a b x h
theorem show_is {a b ra : Int} {t : List Ln} {bu ho : Int} : showT a b ra t bu ho ↔ 0 < t.length ∧ bu + ho ≤ ra ∧ cntP (isKs a b bu (bu + ho)) t = t.length := by
  unfold showT
  rw [cntP_full]
  refine and_congr_right fun _ => and_congr_right fun _ => ⟨fun k x hx h h1 h2 => keepsT_one.mp (k h h1 h2) x hx, fun k h h1 h2 => keepsT_one.mpr fun x hx => k x hx h h1 h2⟩
theorem fr_truths {M : Lm} (h : 0 ≤ M.wr) : truths (fr M) = pairs M := by
  unfold truths
  rw [List.filter_eq_self.mpr]
  · rfl
  · intro x _
    show decide (((wrongsF x [] 0).length : Int) ≤ M.wr) = true
    exact decide_eq_true (by simpa [wrongsF] using h)
set_option maxRecDepth 100000 in
set_option maxHeartbeats 8000000 in

theorem truths_calls (M : Lm) (A : Option Addr) (c : Nat) (w : World) (hV : LampOk M) (hr : Kd.C k64 w A M.gs.length M.gs) :
    Calls Try.prog 62 #[lv M A c] w fun e w' => ∃ v, e = .returned v ∧ Kd.R kL 54 w' w.heap.size (fun _ => True) v (truths M) ∧ Below w.heap.size w w' := by
  have hu3 := Try.underlying3
  have hu24 := Try.underlying24
  have hu26 := Try.underlying26
  have hu27 := Try.underlying27
  have hu46 := Try.underlying46
  have hu54 := Try.underlying54
  obtain ⟨z3, o3⟩ := info_some info3s (by decide)
  obtain ⟨z24, o24⟩ := info_some info24s (by decide)
  obtain ⟨z54, o54⟩ := info_some info54s (by decide)
  have hfew := pairs_few hV.1
  refine E.enter (N := 32) Try.func62 rfl Try.ntmps62 (args := [lv M A c]) (by simp) ?_
  have L := Below.refl w.heap.size w
  refine E.CG.seq ?_
  refine E.CG.list ?_
  refine E.GL.st rfl rfl rfl (E.ST.box rfl rfl fun g1 w1 e1 b1 l1 => ?_)
  have h1_L : w.heap.size ≤ g1 := by rw [e1]; exact L.size
  replace L := below_step L l1
  refine E.GL.run rfl rfl rfl (E.Runs.assign rfl rfl) ?_
  refine E.GL.done ?_
  refine E.QG.code ?_
  refine E.CG.seq ?_
  refine E.CG.list ?_
  refine E.GL.run rfl rfl rfl (E.Runs.assign rfl rfl) ?_
  refine E.GL.done ?_
  refine E.QG.code ?_
  refine E.CG.seq ?_
  refine E.CG.list ?_
  refine E.GL.run rfl rfl rfl (E.Runs.loads (cs := [.int .i64 M.fl, .int .i64 M.fh, .int .i64 M.al, .int .i64 M.ah, .int .i64 M.nl, .int .i64 M.nh, .int .i64 M.ra, .slice A M.gs.length c, .int .i64 M.wr]) rfl rfl hu26 rfl info26s (blk_cells b1)) ?_
  have hs7 := L.size
  refine E.GL.st rfl rfl rfl (E.ST.call rfl ent58 (E.evc rfl E.evn) ((all_calls M A c _ hV.1).mono ?_))
  rintro e w7 ⟨v7, rfl, R7, l7⟩
  refine ⟨_, rfl, ?_⟩
  replace b1 := blk_below b1 l7
  replace L := below_step L l7
  obtain ⟨A7, c7, hv7⟩ := Kd.R_slice R7
  subst hv7
  obtain ⟨_, _, C7⟩ := Kd.R_reads' R7
  have hle7 := L.size
  refine E.GL.run rfl rfl rfl (E.Runs.assign rfl rfl) ?_
  refine E.GL.done ?_
  refine E.QG.code ?_
  refine E.CG.seq ?_
  refine E.CG.seq ?_
  refine E.CG.list ?_
  refine E.GL.run rfl rfl rfl (E.Runs.assign rfl rfl) ?_
  refine E.GL.done ?_
  refine E.QG.code ?_
  refine E.CG.block ?_
  have s4_b1 := b1
  have s4_L := L
  refine E.CG.loop2 (fun (i : Nat) (v3 : Value) => [(1, .pointer (some ⟨g1, 0, none⟩)), (3, v3), (4, .slice A7 (pairs M).length c7), (5, .int .i64 i)]) (fun i v3 w' => i ≤ (pairs M).length ∧ Below w7.heap.size w7 w' ∧ Kd.R kL 54 w' w7.heap.size (fun _ => True) v3 (rf M ((pairs M).take i))) (fun i v3 => (pairs M).length - i) 0 (.slice none 0 0) (E.subc rfl (E.subc rfl (E.subc rfl (E.subc rfl E.subn)))) ⟨Nat.zero_le _, Below.refl _ _, Kd.R_nil _ _ _ _ _⟩ ?_
  rintro i v3 w4 ⟨hi, lr, R3⟩
  replace b1 := blk_below b1 lr
  replace L := below_step L lr
  refine E.CG.seq ?_
  refine E.CG.seq ?_
  refine E.CG.list ?_
  refine E.GL.run rfl rfl rfl (E.Runs.move rfl rfl) ?_
  refine E.GL.run rfl rfl rfl (E.Runs.move rfl rfl) ?_
  refine E.GL.run rfl rfl rfl (E.Runs.len rfl rfl hu46) ?_
  refine E.GL.cmp rfl rfl rfl (fun _ h => (E.Runs.lss rfl rfl rfl h)) (fun h11 => ?_) (fun h11 => ?_)
  · obtain ⟨x, hx⟩ : ∃ x, (pairs M)[i]? = some x := ⟨_, List.getElem?_eq_getElem (by omega)⟩
    obtain ⟨ad, eA, X⟩ := line_at C7 hx
    have hip : (i : Int) < (pairs M).length := by omega
    have hxo := pairs_ok hV.1 (List.mem_of_getElem? hx)
    have hrf := rf_few M (pairs M) i
    refine E.GL.done ?_
    refine E.QG.code ?_
    refine E.CG.cond_t rfl ?_
    refine E.CG.skip ?_
    refine E.QG.code ?_
    refine E.CG.seq ?_
    refine E.CG.block ?_
    refine E.CG.seq ?_
    refine E.CG.heldH (none) (by kernel_rfl) fun v6 lD hh => ?_
    replace b1 := blk_below b1 lD
    replace R3 := Kd.R_below R3 lD
    replace L := below_step L lD
    replace lr := below_step lr lD
    clear lD
    have s_b1 := b1
    have s_L := L
    have s_lr := lr
    refine E.GH.take (i := 0) rfl (by kernel_rfl) (by kernel_rfl) (by kernel_rfl) (by intro c a d v w h; cases d <;> exact h) rfl rfl rfl (fun w' hS => (E.Runs.loads (cs := [.int .i64 M.fl, .int .i64 M.fh, .int .i64 M.al, .int .i64 M.ah, .int .i64 M.nl, .int .i64 M.nh, .int .i64 M.ra, .slice A M.gs.length c, .int .i64 M.wr]) rfl rfl hu26 rfl info26s (blk_cells (blk_grown s_b1 hS E.nen)))) ?_
    refine E.GH.take (i := 1) rfl (by kernel_rfl) (by kernel_rfl) (by kernel_rfl) (by intro c a d v w h; cases d <;> exact h) rfl rfl rfl (fun w' hS => (E.Runs.move rfl rfl)) ?_
    refine E.GH.take (i := 2) rfl (by kernel_rfl) (by kernel_rfl) (by kernel_rfl) (by intro c a d v w h; cases d <;> exact h) rfl rfl rfl (fun w' hS => (E.Runs.move rfl rfl)) ?_
    refine E.GH.take (i := 3) rfl (by kernel_rfl) (by kernel_rfl) (by kernel_rfl) (by intro c a d v w h; cases d <;> exact h) rfl rfl rfl (fun w' hS => (E.Runs.indexAddrA rfl rfl rfl hu46 (by assumption) (by assumption) (by assumption) (by first | rfl | assumption) rfl)) ?_
    refine E.GH.take (i := 4) rfl (by kernel_rfl) (by kernel_rfl) (by kernel_rfl) (by intro c a d v w h; cases d <;> exact h) rfl rfl rfl (fun w' hS => (E.Runs.loads (cs := [.int .i64 x.f0, .int .i64 x.f1]) rfl rfl hu54 rfl info54s ((X.below (below_step s_lr (E.belowG hS))).cells))) ?_
    refine E.GH.take (i := 7) rfl (by kernel_rfl) (by kernel_rfl) (by kernel_rfl) (by intro c a d v w h; cases d <;> exact h) rfl rfl rfl (fun w' hS => (E.Runs.fieldAddr rfl rfl hu26 rfl (by assumption) rfl)) ?_
    refine E.GH.take (i := 8) rfl (by kernel_rfl) (by kernel_rfl) (by kernel_rfl) (by intro c a d v w h; cases d <;> exact h) rfl rfl rfl (fun w' hS => (E.Runs.load rfl rfl hu3 (by first | exact E.keeps hS (E.blkc (by assumption) rfl) (by first | exact E.nen | exact E.nes (by assumption) | exact E.nes (Ne.symm (by assumption))) | exact pw_cell_below (below_step s_L (E.belowG hS)) (by assumption) | exact pw_cell_below (below_step s_lr (E.belowG hS)) (by assumption)))) ?_
    refine E.GH.one (i := 5) (by kernel_rfl) rfl ?_
    refine E.GO.st rfl rfl rfl (E.ST.call rfl ent41 (E.evc rfl (E.evc rfl E.evn)) ((wrong_calls M x A c _ hV hxo (Kd.C_below hr L)).mono ?_))
    rintro e w19 ⟨v19, rfl, R19, l19⟩
    refine ⟨_, rfl, hh.trans (E.gbB l19), ?_⟩
    replace hh := hh.trans (E.gbB l19)
    replace b1 := blk_below b1 l19
    replace R3 := Kd.R_below R3 l19
    replace L := below_step L l19
    replace lr := below_step lr l19
    obtain ⟨A19, c19, hv19⟩ := Kd.R_slice R19
    subst hv19
    refine E.GH.take (i := 6) rfl (by kernel_rfl) (by kernel_rfl) (by kernel_rfl) (by intro c a d v w h; cases d <;> exact h) rfl rfl rfl (fun w' hS => (E.Runs.len rfl rfl hu27)) ?_
    refine E.GH.cmp (i := 9) rfl (by kernel_rfl) (by kernel_rfl) (by kernel_rfl) (by intro c a d v w h; cases d <;> exact h) rfl rfl rfl (fun _ h w' hS => (E.Runs.leq rfl rfl rfl h)) (fun h23 => ?_) (fun h23 => ?_)
    · refine E.GH.done (by kernel_rfl) ?_
      refine E.QG.code ?_
      refine E.CG.cond_t rfl ?_
      refine E.CG.list ?_
      refine E.GL.run rfl rfl rfl (E.Runs.move rfl rfl) ?_
      refine E.GL.run rfl rfl rfl (E.Runs.move rfl rfl) ?_
      refine E.GL.run rfl rfl rfl (E.Runs.move rfl rfl) ?_
      refine E.GL.run rfl rfl rfl (E.Runs.indexAddrA rfl rfl rfl hu46 (by assumption) (by assumption) (by assumption) (by first | rfl | assumption) rfl) ?_
      refine E.GL.run rfl rfl rfl (E.Runs.loads (cs := [.int .i64 x.f0, .int .i64 x.f1]) rfl rfl hu54 rfl info54s ((X.below lr).cells)) ?_
      refine E.GL.st rfl rfl rfl (E.ST.lit rfl (E.epc rfl E.epn) (lit46 x) ?_)
      refine E.GL.st rfl rfl rfl (E.ST.append kL w7.heap.size (w0 := w7) (s := .tmp 24) (x := .tmp 29) rfl hu46 info54 rfl (by decide) (by decide) x rfl rfl (k80_mkM _ _ _ _) (fun _ _ => trivial) R3 lr lr.size (by omega) fun u30 w30 r30 k30 gr30 => ?_)
      replace lr := k30
      replace L := below_step s4_L lr
      replace b1 := blk_below s4_b1 lr
      refine E.GL.run rfl rfl rfl (E.Runs.assign rfl rfl) ?_
      refine E.GL.done ?_
      refine E.QG.block_normal ?_
      refine E.QG.code ?_
      refine E.CG.list ?_
      refine E.GL.run rfl rfl rfl (E.Runs.move rfl rfl) ?_
      refine E.GL.run rfl rfl rfl (E.Runs.add rfl rfl rfl (IntWalk.i64_in _ (by omega))) ?_
      refine E.GL.run rfl rfl rfl (E.Runs.assign rfl rfl) ?_
      refine E.GL.done ?_
      exact E.QG.round2 (d := undef) (i + 1) _ (E.subc rfl (E.subc rfl (E.subc rfl (E.subc rfl E.subn)))) ⟨by omega, lr, by first | (rw [rf_out hx h23]; exact R3) | (rw [rf_in hx h23]; exact r30)⟩ (by omega)
    · refine E.GH.done (by kernel_rfl) ?_
      refine E.QG.code ?_
      refine E.CG.cond_f rfl ?_
      refine E.CG.skip ?_
      refine E.QG.block_normal ?_
      refine E.QG.code ?_
      refine E.CG.list ?_
      refine E.GL.run rfl rfl rfl (E.Runs.move rfl rfl) ?_
      refine E.GL.run rfl rfl rfl (E.Runs.add rfl rfl rfl (IntWalk.i64_in _ (by omega))) ?_
      refine E.GL.run rfl rfl rfl (E.Runs.assign rfl rfl) ?_
      refine E.GL.done ?_
      exact E.QG.round2 (d := undef) (i + 1) _ (E.subc rfl (E.subc rfl (E.subc rfl (E.subc rfl E.subn)))) ⟨by omega, lr, by first | (rw [rf_out hx h23]; exact R3) | (rw [rf_in hx h23]; exact r30)⟩ (by omega)
  · refine E.GL.done ?_
    refine E.QG.code ?_
    refine E.CG.cond_f rfl ?_
    refine E.CG.exit ?_
    refine E.QG.pass_exit ?_
    refine E.QG.pass_exit ?_
    refine E.QG.block_here ?_
    refine E.QG.code ?_
    refine E.CG.seq ?_
    refine E.CG.list ?_
    refine E.GL.run rfl rfl rfl (E.Runs.move rfl rfl) ?_
    refine E.GL.run rfl rfl rfl (E.Runs.assign rfl rfl) ?_
    refine E.GL.done ?_
    refine E.QG.code ?_
    refine E.CG.ret ?_
    have hfin : rf M ((pairs M).take i) = truths M := by rw [List.take_of_length_le (by omega)]; rfl
    exact E.QG.result rfl rfl ⟨_, rfl, by rw [← hfin]; exact Kd.R_lower R3 hle7, L⟩

set_option maxRecDepth 100000 in
set_option maxHeartbeats 8000000 in

theorem old_calls (M : Lm) (A : Option Addr) (c : Nat) (w : World) (hV : LampOk M) (hr : Kd.C k64 w A M.gs.length M.gs) :
    Calls Try.prog 48 #[lv M A c] w fun e w' => ∃ v, e = .returned v ∧ Kd.R kL 54 w' w.heap.size (fun _ => True) v (truths M) ∧ Below w.heap.size w w' := by
  have hu26 := Try.underlying26
  refine E.enter (N := 5) Try.func48 rfl Try.ntmps48 (args := [lv M A c]) (by simp) ?_
  have L := Below.refl w.heap.size w
  refine E.CG.seq ?_
  refine E.CG.list ?_
  refine E.GL.st rfl rfl rfl (E.ST.box rfl rfl fun g1 w1 e1 b1 l1 => ?_)
  have h1_L : w.heap.size ≤ g1 := by rw [e1]; exact L.size
  replace L := below_step L l1
  refine E.GL.run rfl rfl rfl (E.Runs.assign rfl rfl) ?_
  refine E.GL.done ?_
  refine E.QG.code ?_
  refine E.CG.seq ?_
  refine E.CG.list ?_
  refine E.GL.run rfl rfl rfl (E.Runs.loads (cs := [.int .i64 M.fl, .int .i64 M.fh, .int .i64 M.al, .int .i64 M.ah, .int .i64 M.nl, .int .i64 M.nh, .int .i64 M.ra, .slice A M.gs.length c, .int .i64 M.wr]) rfl rfl hu26 rfl info26s (blk_cells b1)) ?_
  have hs4 := L.size
  refine E.GL.st rfl rfl rfl (E.ST.call rfl ent62 (E.evc rfl E.evn) ((truths_calls M A c _ hV (Kd.C_below hr L)).mono ?_))
  rintro e w4 ⟨v4, rfl, R4, l4⟩
  refine ⟨_, rfl, ?_⟩
  replace b1 := blk_below b1 l4
  replace L := below_step L l4
  refine E.GL.run rfl rfl rfl (E.Runs.assign rfl rfl) ?_
  refine E.GL.done ?_
  refine E.QG.code ?_
  refine E.CG.ret ?_
  exact E.QG.result rfl rfl ⟨_, rfl, Kd.R_lower R4 hs4, L⟩

set_option maxRecDepth 100000 in
set_option maxHeartbeats 8000000 in

theorem keptx_calls (M : Lm) (x : Ln) (A : Option Addr) (c : Nat) (f u : Int) (w : World) (r : Bool) (hb : r = true ↔ isKs M.nl M.nh f u x) (hx : PtOk x) (h0 : 0 ≤ f ∧ f ≤ 100) (h1 : u ≤ 100) :
    Calls Try.prog 32 #[lv M A c, pv x, .int .i64 f, .int .i64 u] w fun e w' => e = .returned (.bool r) ∧ Below w.heap.size w w' := by
  have hu3 := Try.underlying3
  have hu23 := Try.underlying23
  have hu26 := Try.underlying26
  have hu54 := Try.underlying54
  obtain ⟨z3, o3⟩ := info_some info3s (by decide)
  obtain ⟨z23, o23⟩ := info_some info23s (by decide)
  refine E.enter (N := 27) Try.func32 rfl Try.ntmps32 (args := [lv M A c, pv x, .int .i64 f, .int .i64 u]) (by simp) ?_
  have L := Below.refl w.heap.size w
  refine E.CG.seq ?_
  refine E.CG.list ?_
  refine E.GL.st rfl rfl rfl (E.ST.box rfl rfl fun g4 w4 e4 b4 l4 => ?_)
  have h4_L : w.heap.size ≤ g4 := by rw [e4]; exact L.size
  replace L := below_step L l4
  refine E.GL.st rfl rfl rfl (E.ST.box rfl rfl fun g5 w5 e5 b5 l5 => ?_)
  have h5_L : w.heap.size ≤ g5 := by rw [e5]; exact L.size
  have n5_b4 : g4 ≠ g5 := by have := blk_lt b4; omega
  replace b4 := blk_below b4 l5
  replace L := below_step L l5
  refine E.GL.run rfl rfl rfl (E.Runs.assign rfl rfl) ?_
  refine E.GL.done ?_
  refine E.QG.code ?_
  refine E.CG.seq ?_
  refine E.CG.seq ?_
  refine E.CG.list ?_
  refine E.GL.run rfl rfl rfl (E.Runs.move rfl rfl) ?_
  refine E.GL.run rfl rfl rfl (E.Runs.assign rfl rfl) ?_
  refine E.GL.done ?_
  refine E.QG.code ?_
  refine E.CG.block ?_
  have s2_b4 := b4
  have s2_b5 := b5
  have s2_L := L
  refine E.CG.loop (fun (i : Nat) => [(3, .int .i64 u), (4, .pointer (some ⟨g4, 0, none⟩)), (5, .pointer (some ⟨g5, 0, none⟩)), (9, .int .i64 (f + i))]) (fun i w' => w'.heap[g4]? = some (.cells #[.int .i64 M.fl, .int .i64 M.fh, .int .i64 M.al, .int .i64 M.ah, .int .i64 M.nl, .int .i64 M.nh, .int .i64 M.ra, .slice A M.gs.length c, .int .i64 M.wr] 26 (0, 0)) ∧ w'.heap[g5]? = some (.cells #[.int .i64 x.f0, .int .i64 x.f1] 54 (0, 0)) ∧ Below w.heap.size w w' ∧ (i = 0 ∨ f + i ≤ u + 1) ∧ ∀ h : Int, f ≤ h → h < f + i → isK M.nl M.nh x h) (fun i => (u - f + 1).toNat - i) 0 (E.subc rfl (E.subc rfl (E.subc rfl (E.subc (congrArg (fun t => some (Value.int .i64 t)) (show f = f + ((0 : Nat) : Int) by omega)) E.subn)))) ⟨b4, b5, L, .inl rfl, fun h k1 k2 => by omega⟩ ?_
  rintro i w2 ⟨b4, b5, L, hi, hk⟩
  refine E.CG.seq ?_
  refine E.CG.seq ?_
  refine E.CG.list ?_
  refine E.GL.run rfl rfl rfl (E.Runs.move rfl rfl) ?_
  refine E.GL.run rfl rfl rfl (E.Runs.move rfl rfl) ?_
  refine E.GL.cmp rfl rfl rfl (fun _ h => (E.Runs.leq rfl rfl rfl h)) (fun h13 => ?_) (fun h13 => ?_)
  · refine E.GL.done ?_
    refine E.QG.code ?_
    refine E.CG.cond_t rfl ?_
    refine E.CG.skip ?_
    refine E.QG.code ?_
    refine E.CG.seq ?_
    refine E.CG.block ?_
    refine E.CG.seq ?_
    refine E.CG.heldH (none) (by kernel_rfl) fun v4 lD hh => ?_
    replace b4 := blk_below b4 lD
    replace b5 := blk_below b5 lD
    replace L := below_step L lD
    clear lD
    have s_b4 := b4
    have s_b5 := b5
    have s_L := L
    refine E.GH.take (i := 0) rfl (by kernel_rfl) (by kernel_rfl) (by kernel_rfl) (by intro c a d v w h; cases d <;> exact h) rfl rfl rfl (fun w' hS => (E.Runs.loads (cs := [.int .i64 x.f0, .int .i64 x.f1]) rfl rfl hu54 rfl info54s (blk_cells (blk_grown s_b5 hS E.nen)))) ?_
    refine E.GH.take (i := 1) rfl (by kernel_rfl) (by kernel_rfl) (by kernel_rfl) (by intro c a d v w h; cases d <;> exact h) rfl rfl rfl (fun w' hS => (E.Runs.move rfl rfl)) ?_
    refine E.GH.take (i := 3) rfl (by kernel_rfl) (by kernel_rfl) (by kernel_rfl) (by intro c a d v w h; cases d <;> exact h) rfl rfl rfl (fun w' hS => (E.Runs.fieldAddr rfl rfl hu26 rfl (by assumption) rfl)) ?_
    refine E.GH.take (i := 4) rfl (by kernel_rfl) (by kernel_rfl) (by kernel_rfl) (by intro c a d v w h; cases d <;> exact h) rfl rfl rfl (fun w' hS => (E.Runs.fieldAddr rfl rfl hu23 rfl (by assumption) rfl)) ?_
    refine E.GH.take (i := 5) rfl (by kernel_rfl) (by kernel_rfl) (by kernel_rfl) (by intro c a d v w h; cases d <;> exact h) rfl rfl rfl (fun w' hS => (E.Runs.load rfl rfl hu3 (by first | exact E.keeps hS (E.blkc (by assumption) rfl) (by first | exact E.nen | exact E.nes (by assumption) | exact E.nes (Ne.symm (by assumption))) | exact pw_cell_below (below_step s_L (E.belowG hS)) (by assumption)))) ?_
    refine E.GH.take (i := 6) rfl (by kernel_rfl) (by kernel_rfl) (by kernel_rfl) (by intro c a d v w h; cases d <;> exact h) rfl rfl rfl (fun w' hS => (E.Runs.fieldAddr rfl rfl hu26 rfl (by assumption) rfl)) ?_
    refine E.GH.take (i := 7) rfl (by kernel_rfl) (by kernel_rfl) (by kernel_rfl) (by intro c a d v w h; cases d <;> exact h) rfl rfl rfl (fun w' hS => (E.Runs.fieldAddr rfl rfl hu23 rfl (by assumption) rfl)) ?_
    refine E.GH.take (i := 8) rfl (by kernel_rfl) (by kernel_rfl) (by kernel_rfl) (by intro c a d v w h; cases d <;> exact h) rfl rfl rfl (fun w' hS => (E.Runs.load rfl rfl hu3 (by first | exact E.keeps hS (E.blkc (by assumption) rfl) (by first | exact E.nen | exact E.nes (by assumption) | exact E.nes (Ne.symm (by assumption))) | exact pw_cell_below (below_step s_L (E.belowG hS)) (by assumption)))) ?_
    refine E.GH.one (i := 2) (by kernel_rfl) rfl ?_
    refine E.GO.st rfl rfl rfl (E.ST.call rfl ent31 (E.evc rfl (E.evc rfl E.evn)) ((light_r x (f + i) _ hx (by omega) (by omega)).mono ?_))
    rintro e w18 ⟨rfl, l18⟩
    refine ⟨_, rfl, hh.trans (E.gbB l18), ?_⟩
    replace hh := hh.trans (E.gbB l18)
    replace b4 := blk_below b4 l18
    replace b5 := blk_below b5 l18
    replace L := below_step L l18
    by_cases h25 : isK M.nl M.nh x (f + i)
    · refine E.GH.one (i := 9) (by kernel_rfl) rfl ?_
      refine E.GO.st rfl rfl rfl (E.ST.call rfl ent56 (E.evc rfl (E.evc rfl (E.evc rfl E.evn))) ((within_r (light x (f + i)) M.nl M.nh true (iff_of_true rfl h25) _).mono ?_))
      rintro e w25 ⟨rfl, l25⟩
      refine ⟨_, rfl, hh.trans (E.gbB l25), ?_⟩
      replace hh := hh.trans (E.gbB l25)
      replace b4 := blk_below b4 l25
      replace b5 := blk_below b5 l25
      replace L := below_step L l25
      refine E.GH.take (i := 10) rfl (by kernel_rfl) (by kernel_rfl) (by kernel_rfl) (by intro c a d v w h; cases d <;> exact h) rfl rfl rfl (fun w' hS => (E.Runs.not rfl rfl)) ?_
      refine E.GH.done (by kernel_rfl) ?_
      refine E.QG.code ?_
      refine E.CG.cond_f rfl ?_
      refine E.CG.skip ?_
      refine E.QG.block_normal ?_
      refine E.QG.code ?_
      refine E.CG.list ?_
      refine E.GL.run rfl rfl rfl (E.Runs.move rfl rfl) ?_
      refine E.GL.run rfl rfl rfl (E.Runs.add rfl rfl rfl (IntWalk.i64_in _ (by omega))) ?_
      refine E.GL.run rfl rfl rfl (E.Runs.assign rfl rfl) ?_
      refine E.GL.done ?_
      exact E.QG.round (i + 1) (E.subc rfl (E.subc rfl (E.subc rfl (E.subc (by rw [show f + ((i + 1 : Nat) : Int) = f + (i : Int) + 1 by omega]; rfl) E.subn)))) ⟨b4, b5, L, .inr (by omega), fun h k1 k2 => by by_cases e : h = f + i; exact e ▸ h25; exact hk h k1 (by omega)⟩ (by omega)
    · refine E.GH.one (i := 9) (by kernel_rfl) rfl ?_
      refine E.GO.st rfl rfl rfl (E.ST.call rfl ent56 (E.evc rfl (E.evc rfl (E.evc rfl E.evn))) ((within_r (light x (f + i)) M.nl M.nh false (iff_of_false Bool.false_ne_true h25) _).mono ?_))
      rintro e w25 ⟨rfl, l25⟩
      refine ⟨_, rfl, hh.trans (E.gbB l25), ?_⟩
      replace hh := hh.trans (E.gbB l25)
      replace b4 := blk_below b4 l25
      replace b5 := blk_below b5 l25
      replace L := below_step L l25
      refine E.GH.take (i := 10) rfl (by kernel_rfl) (by kernel_rfl) (by kernel_rfl) (by intro c a d v w h; cases d <;> exact h) rfl rfl rfl (fun w' hS => (E.Runs.not rfl rfl)) ?_
      refine E.GH.done (by kernel_rfl) ?_
      refine E.QG.code ?_
      refine E.CG.cond_t rfl ?_
      refine E.CG.seq ?_
      refine E.CG.list ?_
      refine E.GL.run rfl rfl rfl (E.Runs.assign rfl rfl) ?_
      refine E.GL.done ?_
      refine E.QG.code ?_
      refine E.CG.ret ?_
      refine E.QG.block_ret ?_
      refine E.QG.pass_ret ?_
      refine E.QG.pass_ret ?_
      refine E.QG.block_ret ?_
      refine E.QG.pass_ret ?_
      exact E.QG.result rfl rfl ⟨by rw [bool_no hb (fun k => h25 (k _ (by omega) (by omega)))], L⟩
  · refine E.GL.done ?_
    refine E.QG.code ?_
    refine E.CG.cond_f rfl ?_
    refine E.CG.exit ?_
    refine E.QG.pass_exit ?_
    refine E.QG.pass_exit ?_
    refine E.QG.block_here ?_
    refine E.QG.code ?_
    refine E.CG.seq ?_
    refine E.CG.list ?_
    refine E.GL.run rfl rfl rfl (E.Runs.assign rfl rfl) ?_
    refine E.GL.done ?_
    refine E.QG.code ?_
    refine E.CG.ret ?_
    exact E.QG.result rfl rfl ⟨by rw [hb.mpr (fun h k1 k2 => hk h k1 (by omega))], L⟩

set_option maxRecDepth 100000 in
set_option maxHeartbeats 8000000 in

theorem keptn_calls (M : Lm) (t : List Ln) (A A1 : Option Addr) (c c1 : Nat) (f u : Int) (w : World) (hr : Kd.C kL w A1 t.length t) (ht : ∀ x ∈ t, PtOk x) (hn : t.length ≤ 1000000) (h0 : 0 ≤ f ∧ f ≤ 100) (h1 : u ≤ 100) :
    Calls Try.prog 57 #[lv M A c, .slice A1 t.length c1, .int .i64 f, .int .i64 u] w fun e w' => e = .returned (.int .i64 (cntP (isKs M.nl M.nh f u) t : Int)) ∧ Below w.heap.size w w' := by
  have hu3 := Try.underlying3
  have hu26 := Try.underlying26
  have hu46 := Try.underlying46
  have hu54 := Try.underlying54
  obtain ⟨z3, o3⟩ := info_some info3s (by decide)
  obtain ⟨z54, o54⟩ := info_some info54s (by decide)
  refine E.enter (N := 28) Try.func57 rfl Try.ntmps57 (args := [lv M A c, .slice A1 t.length c1, .int .i64 f, .int .i64 u]) (by simp) ?_
  have L := Below.refl w.heap.size w
  refine E.CG.seq ?_
  refine E.CG.list ?_
  refine E.GL.st rfl rfl rfl (E.ST.box rfl rfl fun g4 w4 e4 b4 l4 => ?_)
  have h4_L : w.heap.size ≤ g4 := by rw [e4]; exact L.size
  replace L := below_step L l4
  refine E.GL.run rfl rfl rfl (E.Runs.assign rfl rfl) ?_
  refine E.GL.done ?_
  refine E.QG.code ?_
  refine E.CG.seq ?_
  refine E.CG.list ?_
  refine E.GL.run rfl rfl rfl (E.Runs.assign rfl rfl) ?_
  refine E.GL.done ?_
  refine E.QG.code ?_
  refine E.CG.seq ?_
  refine E.CG.seq ?_
  refine E.CG.list ?_
  refine E.GL.run rfl rfl rfl (E.Runs.assign rfl rfl) ?_
  refine E.GL.done ?_
  refine E.QG.code ?_
  refine E.CG.block ?_
  have s3_b4 := b4
  have s3_L := L
  refine E.CG.loop (fun (i : Nat) => [(1, .slice A1 t.length c1), (2, .int .i64 f), (3, .int .i64 u), (4, .pointer (some ⟨g4, 0, none⟩)), (9, .int .i64 (cntP (isKs M.nl M.nh f u) (t.take i) : Int)), (10, .int .i64 i)]) (fun i w' => i ≤ t.length ∧ w'.heap[g4]? = some (.cells #[.int .i64 M.fl, .int .i64 M.fh, .int .i64 M.al, .int .i64 M.ah, .int .i64 M.nl, .int .i64 M.nh, .int .i64 M.ra, .slice A M.gs.length c, .int .i64 M.wr] 26 (0, 0)) ∧ Below w.heap.size w w') (fun i => t.length - i) 0 (E.subc rfl (E.subc rfl (E.subc rfl (E.subc rfl (E.subc rfl (E.subc rfl E.subn)))))) ⟨Nat.zero_le _, b4, L⟩ ?_
  rintro i w3 ⟨hi, b4, L⟩
  refine E.CG.seq ?_
  refine E.CG.seq ?_
  refine E.CG.list ?_
  refine E.GL.run rfl rfl rfl (E.Runs.move rfl rfl) ?_
  refine E.GL.run rfl rfl rfl (E.Runs.move rfl rfl) ?_
  refine E.GL.run rfl rfl rfl (E.Runs.len rfl rfl hu46) ?_
  refine E.GL.cmp rfl rfl rfl (fun _ h => (E.Runs.lss rfl rfl rfl h)) (fun h14 => ?_) (fun h14 => ?_)
  · obtain ⟨x, hx⟩ : ∃ x, t[i]? = some x := ⟨_, List.getElem?_eq_getElem (by omega)⟩
    obtain ⟨ad, eA, X⟩ := line_at hr hx
    have hit : (i : Int) < t.length := by omega
    have hle := cntP_le (isKs M.nl M.nh f u) (t.take i)
    rw [List.length_take] at hle
    refine E.GL.done ?_
    refine E.QG.code ?_
    refine E.CG.cond_t rfl ?_
    refine E.CG.skip ?_
    refine E.QG.code ?_
    refine E.CG.seq ?_
    refine E.CG.block ?_
    refine E.CG.seq ?_
    refine E.CG.heldH (none) (by kernel_rfl) fun v5 lD hh => ?_
    replace b4 := blk_below b4 lD
    replace L := below_step L lD
    clear lD
    have s_b4 := b4
    have s_L := L
    refine E.GH.take (i := 0) rfl (by kernel_rfl) (by kernel_rfl) (by kernel_rfl) (by intro c a d v w h; cases d <;> exact h) rfl rfl rfl (fun w' hS => (E.Runs.loads (cs := [.int .i64 M.fl, .int .i64 M.fh, .int .i64 M.al, .int .i64 M.ah, .int .i64 M.nl, .int .i64 M.nh, .int .i64 M.ra, .slice A M.gs.length c, .int .i64 M.wr]) rfl rfl hu26 rfl info26s (blk_cells (blk_grown s_b4 hS E.nen)))) ?_
    refine E.GH.take (i := 1) rfl (by kernel_rfl) (by kernel_rfl) (by kernel_rfl) (by intro c a d v w h; cases d <;> exact h) rfl rfl rfl (fun w' hS => (E.Runs.move rfl rfl)) ?_
    refine E.GH.take (i := 2) rfl (by kernel_rfl) (by kernel_rfl) (by kernel_rfl) (by intro c a d v w h; cases d <;> exact h) rfl rfl rfl (fun w' hS => (E.Runs.move rfl rfl)) ?_
    refine E.GH.take (i := 3) rfl (by kernel_rfl) (by kernel_rfl) (by kernel_rfl) (by intro c a d v w h; cases d <;> exact h) rfl rfl rfl (fun w' hS => (E.Runs.indexAddrA rfl rfl rfl hu46 (by assumption) (by assumption) (by assumption) (by first | rfl | assumption) rfl)) ?_
    refine E.GH.take (i := 4) rfl (by kernel_rfl) (by kernel_rfl) (by kernel_rfl) (by intro c a d v w h; cases d <;> exact h) rfl rfl rfl (fun w' hS => (E.Runs.loads (cs := [.int .i64 x.f0, .int .i64 x.f1]) rfl rfl hu54 rfl info54s ((X.below (below_step s_L (E.belowG hS))).cells))) ?_
    refine E.GH.take (i := 5) rfl (by kernel_rfl) (by kernel_rfl) (by kernel_rfl) (by intro c a d v w h; cases d <;> exact h) rfl rfl rfl (fun w' hS => (E.Runs.move rfl rfl)) ?_
    refine E.GH.take (i := 6) rfl (by kernel_rfl) (by kernel_rfl) (by kernel_rfl) (by intro c a d v w h; cases d <;> exact h) rfl rfl rfl (fun w' hS => (E.Runs.move rfl rfl)) ?_
    by_cases h24 : isKs M.nl M.nh f u x
    · refine E.GH.one (i := 7) (by kernel_rfl) rfl ?_
      refine E.GO.st rfl rfl rfl (E.ST.call rfl ent32 (E.evc rfl (E.evc rfl (E.evc rfl (E.evc rfl E.evn)))) ((keptx_calls M x A c f u _ true (iff_of_true rfl h24) (ht x (List.mem_of_getElem? hx)) h0 h1).mono ?_))
      rintro e w24 ⟨rfl, l24⟩
      refine ⟨_, rfl, hh.trans (E.gbB l24), ?_⟩
      replace hh := hh.trans (E.gbB l24)
      replace b4 := blk_below b4 l24
      replace L := below_step L l24
      refine E.GH.done (by kernel_rfl) ?_
      refine E.QG.code ?_
      refine E.CG.cond_t rfl ?_
      refine E.CG.list ?_
      refine E.GL.run rfl rfl rfl (E.Runs.move rfl rfl) ?_
      have hcnt := cntP_in hx h24
      refine E.GL.run rfl rfl rfl (E.Runs.add rfl rfl rfl (IntWalk.i64_in _ (by omega))) ?_
      refine E.GL.run rfl rfl rfl (E.Runs.assign rfl rfl) ?_
      refine E.GL.done ?_
      refine E.QG.block_normal ?_
      refine E.QG.code ?_
      refine E.CG.list ?_
      refine E.GL.run rfl rfl rfl (E.Runs.move rfl rfl) ?_
      refine E.GL.run rfl rfl rfl (E.Runs.add rfl rfl rfl (IntWalk.i64_in _ (by omega))) ?_
      refine E.GL.run rfl rfl rfl (E.Runs.assign rfl rfl) ?_
      refine E.GL.done ?_
      exact E.QG.round (i + 1) (E.subc rfl (E.subc rfl (E.subc rfl (E.subc rfl (E.subc (by first | (rw [cntP_in hx h24]; rfl) | (rw [cntP_out hx h24]; rfl)) (E.subc rfl E.subn)))))) ⟨by omega, b4, L⟩ (by omega)
    · refine E.GH.one (i := 7) (by kernel_rfl) rfl ?_
      refine E.GO.st rfl rfl rfl (E.ST.call rfl ent32 (E.evc rfl (E.evc rfl (E.evc rfl (E.evc rfl E.evn)))) ((keptx_calls M x A c f u _ false (iff_of_false Bool.false_ne_true h24) (ht x (List.mem_of_getElem? hx)) h0 h1).mono ?_))
      rintro e w24 ⟨rfl, l24⟩
      refine ⟨_, rfl, hh.trans (E.gbB l24), ?_⟩
      replace hh := hh.trans (E.gbB l24)
      replace b4 := blk_below b4 l24
      replace L := below_step L l24
      refine E.GH.done (by kernel_rfl) ?_
      refine E.QG.code ?_
      refine E.CG.cond_f rfl ?_
      refine E.CG.skip ?_
      refine E.QG.block_normal ?_
      refine E.QG.code ?_
      refine E.CG.list ?_
      refine E.GL.run rfl rfl rfl (E.Runs.move rfl rfl) ?_
      refine E.GL.run rfl rfl rfl (E.Runs.add rfl rfl rfl (IntWalk.i64_in _ (by omega))) ?_
      refine E.GL.run rfl rfl rfl (E.Runs.assign rfl rfl) ?_
      refine E.GL.done ?_
      exact E.QG.round (i + 1) (E.subc rfl (E.subc rfl (E.subc rfl (E.subc rfl (E.subc (by first | (rw [cntP_in hx h24]; rfl) | (rw [cntP_out hx h24]; rfl)) (E.subc rfl E.subn)))))) ⟨by omega, b4, L⟩ (by omega)
  · obtain rfl : i = t.length := by omega
    refine E.GL.done ?_
    refine E.QG.code ?_
    refine E.CG.cond_f rfl ?_
    refine E.CG.exit ?_
    refine E.QG.pass_exit ?_
    refine E.QG.pass_exit ?_
    refine E.QG.block_here ?_
    refine E.QG.code ?_
    refine E.CG.seq ?_
    refine E.CG.list ?_
    refine E.GL.run rfl rfl rfl (E.Runs.move rfl rfl) ?_
    refine E.GL.run rfl rfl rfl (E.Runs.assign rfl rfl) ?_
    refine E.GL.done ?_
    refine E.QG.code ?_
    refine E.CG.ret ?_
    exact E.QG.result rfl rfl ⟨by rw [List.take_length], L⟩

set_option maxRecDepth 100000 in
set_option maxHeartbeats 8000000 in

theorem canshow_calls (M : Lm) (t : List Ln) (A A1 : Option Addr) (c c1 : Nat) (burnt hours : Int) (w : World) (r : Bool) (hb : r = true ↔ showT M.nl M.nh M.ra t burnt hours) (hr : Kd.C kL w A1 t.length t) (ht : ∀ x ∈ t, PtOk x) (hn : t.length ≤ 1000000) (h0 : 0 ≤ burnt ∧ burnt ≤ 40) (h1 : 0 ≤ hours ∧ hours ≤ 40) (h2 : M.ra ≤ 40) :
    Calls Try.prog 23 #[lv M A c, .slice A1 t.length c1, .int .i64 burnt, .int .i64 hours] w fun e w' => e = .returned (.bool r) ∧ Below w.heap.size w w' := by
  have hu3 := Try.underlying3
  have hu26 := Try.underlying26
  have hu46 := Try.underlying46
  obtain ⟨z3, o3⟩ := info_some info3s (by decide)
  rw [show_is] at hb
  refine E.enter (N := 32) Try.func23 rfl Try.ntmps23 (args := [lv M A c, .slice A1 t.length c1, .int .i64 burnt, .int .i64 hours]) (by simp) ?_
  have L := Below.refl w.heap.size w
  refine E.CG.seq ?_
  refine E.CG.list ?_
  refine E.GL.st rfl rfl rfl (E.ST.box rfl rfl fun g4 w4 e4 b4 l4 => ?_)
  have h4_L : w.heap.size ≤ g4 := by rw [e4]; exact L.size
  replace L := below_step L l4
  refine E.GL.run rfl rfl rfl (E.Runs.assign rfl rfl) ?_
  refine E.GL.done ?_
  refine E.QG.code ?_
  refine E.CG.seq ?_
  refine E.CG.list ?_
  refine E.GL.run rfl rfl rfl (E.Runs.move rfl rfl) ?_
  refine E.GL.run rfl rfl rfl (E.Runs.len rfl rfl hu46) ?_
  refine E.GL.cmp rfl rfl rfl (fun _ h => (E.Runs.gtr rfl rfl rfl h)) (fun h11 => ?_) (fun h11 => ?_)
  · refine E.GL.run rfl rfl rfl (E.Runs.move rfl rfl) ?_
    refine E.GL.run rfl rfl rfl (E.Runs.move rfl rfl) ?_
    refine E.GL.run rfl rfl rfl (E.Runs.move rfl rfl) ?_
    refine E.GL.run rfl rfl rfl (E.Runs.add rfl rfl rfl (IntWalk.i64_in _ (by omega))) ?_
    refine E.GL.run rfl rfl rfl (E.Runs.fieldAddr rfl rfl hu26 rfl (by assumption) rfl) ?_
    refine E.GL.run rfl rfl rfl (E.Runs.load rfl rfl hu3 (by first | assumption | exact E.blkc (by assumption) rfl | exact pw_cell_below L (by assumption))) ?_
    refine E.GL.cmp rfl rfl rfl (fun _ h => (E.Runs.leq rfl rfl rfl h)) (fun h18 => ?_) (fun h18 => ?_)
    · refine E.GL.run rfl rfl rfl (E.Runs.pick_t rfl rfl rfl) ?_
      refine E.GL.run rfl rfl rfl (E.Runs.move rfl rfl) ?_
      refine E.GL.run rfl rfl rfl (E.Runs.loads (cs := [.int .i64 M.fl, .int .i64 M.fh, .int .i64 M.al, .int .i64 M.ah, .int .i64 M.nl, .int .i64 M.nh, .int .i64 M.ra, .slice A M.gs.length c, .int .i64 M.wr]) rfl rfl hu26 rfl info26s (blk_cells b4)) ?_
      refine E.GL.run rfl rfl rfl (E.Runs.move rfl rfl) ?_
      refine E.GL.run rfl rfl rfl (E.Runs.move rfl rfl) ?_
      refine E.GL.run rfl rfl rfl (E.Runs.move rfl rfl) ?_
      refine E.GL.run rfl rfl rfl (E.Runs.move rfl rfl) ?_
      refine E.GL.run rfl rfl rfl (E.Runs.add rfl rfl rfl (IntWalk.i64_in _ (by omega))) ?_
      refine E.GL.st rfl rfl rfl (E.ST.call rfl ent57 (E.evc rfl (E.evc rfl (E.evc rfl (E.evc rfl E.evn)))) ((keptn_calls M t A A1 c c1 burnt (burnt + hours) _ (Kd.C_below hr L) ht hn ⟨h0.1, by omega⟩ (by omega)).mono ?_))
      rintro e w27 ⟨rfl, l27⟩
      refine ⟨_, rfl, ?_⟩
      replace b4 := blk_below b4 l27
      replace L := below_step L l27
      refine E.GL.run rfl rfl rfl (E.Runs.move rfl rfl) ?_
      refine E.GL.run rfl rfl rfl (E.Runs.len rfl rfl hu46) ?_
      refine E.GL.cmp rfl rfl rfl (fun _ h => (E.Runs.eql rfl rfl rfl h)) (fun h30 => ?_) (fun h30 => ?_)
      · refine E.GL.run rfl rfl rfl (E.Runs.pick_t rfl rfl rfl) ?_
        refine E.GL.run rfl rfl rfl (E.Runs.assign rfl rfl) ?_
        refine E.GL.done ?_
        refine E.QG.code ?_
        refine E.CG.ret ?_
        exact E.QG.result rfl rfl ⟨by rw [hb.mpr ⟨by omega, by omega, by omega⟩], L⟩
      · refine E.GL.run rfl rfl rfl (E.Runs.pick_t rfl rfl rfl) ?_
        refine E.GL.run rfl rfl rfl (E.Runs.assign rfl rfl) ?_
        refine E.GL.done ?_
        refine E.QG.code ?_
        refine E.CG.ret ?_
        exact E.QG.result rfl rfl ⟨by rw [bool_no hb (fun k => by have := k.2.2; omega)], L⟩
    · refine E.GL.run rfl rfl rfl (E.Runs.pick_t rfl rfl rfl) ?_
      refine E.GL.run rfl rfl rfl (E.Runs.move rfl rfl) ?_
      refine E.GL.skip rfl rfl rfl ?_
      refine E.GL.skip rfl rfl rfl ?_
      refine E.GL.skip rfl rfl rfl ?_
      refine E.GL.skip rfl rfl rfl ?_
      refine E.GL.skip rfl rfl rfl ?_
      refine E.GL.skip rfl rfl rfl ?_
      refine E.GL.skip rfl rfl rfl ?_
      refine E.GL.skip rfl rfl rfl ?_
      refine E.GL.skip rfl rfl rfl ?_
      refine E.GL.skip rfl rfl rfl ?_
      refine E.GL.run rfl rfl rfl (E.Runs.pick_f rfl rfl rfl) ?_
      refine E.GL.run rfl rfl rfl (E.Runs.assign rfl rfl) ?_
      refine E.GL.done ?_
      refine E.QG.code ?_
      refine E.CG.ret ?_
      exact E.QG.result rfl rfl ⟨by rw [bool_no hb (fun k => by have := k.2.1; omega)], L⟩
  · refine E.GL.run rfl rfl rfl (E.Runs.move rfl rfl) ?_
    refine E.GL.skip rfl rfl rfl ?_
    refine E.GL.skip rfl rfl rfl ?_
    refine E.GL.skip rfl rfl rfl ?_
    refine E.GL.skip rfl rfl rfl ?_
    refine E.GL.skip rfl rfl rfl ?_
    refine E.GL.skip rfl rfl rfl ?_
    refine E.GL.run rfl rfl rfl (E.Runs.pick_f rfl rfl rfl) ?_
    refine E.GL.run rfl rfl rfl (E.Runs.move rfl rfl) ?_
    refine E.GL.skip rfl rfl rfl ?_
    refine E.GL.skip rfl rfl rfl ?_
    refine E.GL.skip rfl rfl rfl ?_
    refine E.GL.skip rfl rfl rfl ?_
    refine E.GL.skip rfl rfl rfl ?_
    refine E.GL.skip rfl rfl rfl ?_
    refine E.GL.skip rfl rfl rfl ?_
    refine E.GL.skip rfl rfl rfl ?_
    refine E.GL.skip rfl rfl rfl ?_
    refine E.GL.skip rfl rfl rfl ?_
    refine E.GL.run rfl rfl rfl (E.Runs.pick_f rfl rfl rfl) ?_
    refine E.GL.run rfl rfl rfl (E.Runs.assign rfl rfl) ?_
    refine E.GL.done ?_
    refine E.QG.code ?_
    refine E.CG.ret ?_
    exact E.QG.result rfl rfl ⟨by rw [bool_no hb (fun k => by have := k.1; omega)], L⟩

set_option maxRecDepth 100000 in
set_option maxHeartbeats 8000000 in

theorem checkdays_calls (M : Lm) (A Ad : Option Addr) (c cd : Nat) (b : Int) (l : List Int) (w : World) (hr : Kd.C k64 w A M.gs.length M.gs) (hn : M.gs.length ≤ 1000000) (hd : Kd.C kI w Ad l.length l) :
    Calls Try.prog 22 #[lv M A c, .int .i64 b, .slice Ad l.length cd] w fun e w' => e = .returned (.int .i64 (daysE M b l)) ∧ Below w.heap.size w w' := by
  have hu3 := Try.underlying3
  have hu26 := Try.underlying26
  have hu27 := Try.underlying27
  obtain ⟨z3, o3⟩ := info_some info3s (by decide)
  refine E.enter (N := 31) Try.func22 rfl Try.ntmps22 (args := [lv M A c, .int .i64 b, .slice Ad l.length cd]) (by simp) ?_
  have L := Below.refl w.heap.size w
  refine E.CG.seq ?_
  refine E.CG.list ?_
  refine E.GL.st rfl rfl rfl (E.ST.box rfl rfl fun g3 w3 e3 b3 l3 => ?_)
  have h3_L : w.heap.size ≤ g3 := by rw [e3]; exact L.size
  replace L := below_step L l3
  refine E.GL.run rfl rfl rfl (E.Runs.assign rfl rfl) ?_
  refine E.GL.done ?_
  refine E.QG.code ?_
  refine E.CG.seq ?_
  refine E.CG.seq ?_
  refine E.CG.list ?_
  refine E.GL.run rfl rfl rfl (E.Runs.loads (cs := [.int .i64 M.fl, .int .i64 M.fh, .int .i64 M.al, .int .i64 M.ah, .int .i64 M.nl, .int .i64 M.nh, .int .i64 M.ra, .slice A M.gs.length c, .int .i64 M.wr]) rfl rfl hu26 rfl info26s (blk_cells b3)) ?_
  refine E.GL.st rfl rfl rfl (E.ST.call rfl ent40 (E.evc rfl E.evn) ((check_r M A c _ (Kd.C_below hr L) hn).mono ?_))
  rintro e w9 ⟨rfl, l9⟩
  refine ⟨_, rfl, ?_⟩
  replace b3 := blk_below b3 l9
  replace L := below_step L l9
  refine E.GL.cmpn rfl rfl rfl (fun _ h => (E.Runs.neq rfl rfl rfl h)) (fun h10 => ?_) (fun h10 => ?_)
  · have hV := fun k => h10 ((checkE_ok M).mpr k)
    refine E.GL.done ?_
    refine E.QG.code ?_
    refine E.CG.cond_t rfl ?_
    refine E.CG.seq ?_
    refine E.CG.list ?_
    refine E.GL.run rfl rfl rfl (E.Runs.assign rfl rfl) ?_
    refine E.GL.done ?_
    refine E.QG.code ?_
    refine E.CG.ret ?_
    refine E.QG.pass_ret ?_
    exact E.QG.result rfl rfl ⟨by rw [daysE_90 hV], L⟩
  · have hV := (checkE_ok M).mp (by omega)
    refine E.GL.done ?_
    refine E.QG.code ?_
    refine E.CG.cond_f rfl ?_
    refine E.CG.skip ?_
    refine E.QG.code ?_
    refine E.CG.seq ?_
    refine E.CG.seq ?_
    refine E.CG.list ?_
    refine E.GL.run rfl rfl rfl (E.Runs.move rfl rfl) ?_
    by_cases h12 : inR b 0 40
    · refine E.GL.st rfl rfl rfl (E.ST.call rfl ent56 (E.evc rfl (E.evc rfl (E.evc rfl E.evn))) ((within_r b 0 40 true (iff_of_true rfl h12) _).mono ?_))
      rintro e w12 ⟨rfl, l12⟩
      refine ⟨_, rfl, ?_⟩
      replace b3 := blk_below b3 l12
      replace L := below_step L l12
      refine E.GL.run rfl rfl rfl (E.Runs.not rfl rfl) ?_
      refine E.GL.run rfl rfl rfl (E.Runs.move rfl rfl) ?_
      refine E.GL.run rfl rfl rfl (E.Runs.move rfl rfl) ?_
      refine E.GL.run rfl rfl rfl (E.Runs.len rfl rfl hu27) ?_
      refine E.GL.cmp rfl rfl rfl (fun _ h => (E.Runs.gtr rfl rfl rfl h)) (fun h17 => ?_) (fun h17 => ?_)
      · refine E.GL.run rfl rfl rfl (E.Runs.pick_f rfl rfl rfl) ?_
        refine E.GL.done ?_
        refine E.QG.code ?_
        refine E.CG.cond_t rfl ?_
        refine E.CG.seq ?_
        refine E.CG.list ?_
        refine E.GL.run rfl rfl rfl (E.Runs.assign rfl rfl) ?_
        refine E.GL.done ?_
        refine E.QG.code ?_
        refine E.CG.ret ?_
        refine E.QG.pass_ret ?_
        exact E.QG.result rfl rfl ⟨by rw [daysE_1 hV (.inr (.inl (by omega)))], L⟩
      · refine E.GL.run rfl rfl rfl (E.Runs.pick_f rfl rfl rfl) ?_
        refine E.GL.done ?_
        refine E.QG.code ?_
        refine E.CG.cond_f rfl ?_
        refine E.CG.skip ?_
        refine E.QG.code ?_
        refine E.CG.seq ?_
        refine E.CG.seq ?_
        refine E.CG.list ?_
        refine E.GL.run rfl rfl rfl (E.Runs.assign rfl rfl) ?_
        refine E.GL.done ?_
        refine E.QG.code ?_
        refine E.CG.block ?_
        have s6_b3 := b3
        have s6_L := L
        refine E.CG.loop (fun (i : Nat) => [(2, .slice Ad l.length cd), (7, .int .i64 i)]) (fun i w' => i ≤ l.length ∧ Below w.heap.size w w' ∧ ∀ k, k < i → ∀ x, l[k]? = some x → inR x 0 40) (fun i => l.length - i) 0 (E.subc rfl (E.subc rfl E.subn)) ⟨Nat.zero_le _, L, fun k hk => by omega⟩ ?_
        rintro i w6 ⟨hi, L, hok⟩
        refine E.CG.seq ?_
        refine E.CG.seq ?_
        refine E.CG.list ?_
        refine E.GL.run rfl rfl rfl (E.Runs.move rfl rfl) ?_
        refine E.GL.run rfl rfl rfl (E.Runs.move rfl rfl) ?_
        refine E.GL.run rfl rfl rfl (E.Runs.len rfl rfl hu27) ?_
        refine E.GL.cmp rfl rfl rfl (fun _ h => (E.Runs.lss rfl rfl rfl h)) (fun h22 => ?_) (fun h22 => ?_)
        · obtain ⟨x, hx⟩ : ∃ x, l[i]? = some x := ⟨_, List.getElem?_eq_getElem (by omega)⟩
          obtain ⟨ad, eA, X⟩ := int_at hd hx
          have hil : (i : Int) < l.length := by omega
          refine E.GL.done ?_
          refine E.QG.code ?_
          refine E.CG.cond_t rfl ?_
          refine E.CG.skip ?_
          refine E.QG.code ?_
          refine E.CG.seq ?_
          refine E.CG.block ?_
          refine E.CG.seq ?_
          refine E.CG.list ?_
          refine E.GL.run rfl rfl rfl (E.Runs.move rfl rfl) ?_
          refine E.GL.run rfl rfl rfl (E.Runs.move rfl rfl) ?_
          refine E.GL.run rfl rfl rfl (E.Runs.indexAddrA rfl rfl rfl hu27 (by assumption) (by assumption) (by assumption) (by first | rfl | assumption) rfl) ?_
          refine E.GL.run rfl rfl rfl (E.Runs.load rfl rfl hu3 (by first | assumption | exact E.blkc (by assumption) rfl | exact pw_cell_below L (by assumption))) ?_
          by_cases h29 : inR x 0 40
          · refine E.GL.st rfl rfl rfl (E.ST.call rfl ent56 (E.evc rfl (E.evc rfl (E.evc rfl E.evn))) ((within_r x 0 40 true (iff_of_true rfl h29) _).mono ?_))
            rintro e w29 ⟨rfl, l29⟩
            refine ⟨_, rfl, ?_⟩
            replace L := below_step L l29
            refine E.GL.run rfl rfl rfl (E.Runs.not rfl rfl) ?_
            refine E.GL.done ?_
            refine E.QG.code ?_
            refine E.CG.cond_f rfl ?_
            refine E.CG.skip ?_
            refine E.QG.block_normal ?_
            refine E.QG.code ?_
            refine E.CG.list ?_
            refine E.GL.run rfl rfl rfl (E.Runs.move rfl rfl) ?_
            refine E.GL.run rfl rfl rfl (E.Runs.add rfl rfl rfl (IntWalk.i64_in _ (by omega))) ?_
            refine E.GL.run rfl rfl rfl (E.Runs.assign rfl rfl) ?_
            refine E.GL.done ?_
            exact E.QG.round (i + 1) (E.subc rfl (E.subc rfl E.subn)) ⟨by omega, L, days_more hok hx h29⟩ (by omega)
          · refine E.GL.st rfl rfl rfl (E.ST.call rfl ent56 (E.evc rfl (E.evc rfl (E.evc rfl E.evn))) ((within_r x 0 40 false (iff_of_false Bool.false_ne_true h29) _).mono ?_))
            rintro e w29 ⟨rfl, l29⟩
            refine ⟨_, rfl, ?_⟩
            replace L := below_step L l29
            refine E.GL.run rfl rfl rfl (E.Runs.not rfl rfl) ?_
            refine E.GL.done ?_
            refine E.QG.code ?_
            refine E.CG.cond_t rfl ?_
            refine E.CG.seq ?_
            refine E.CG.list ?_
            refine E.GL.run rfl rfl rfl (E.Runs.assign rfl rfl) ?_
            refine E.GL.done ?_
            refine E.QG.code ?_
            refine E.CG.ret ?_
            refine E.QG.block_ret ?_
            refine E.QG.pass_ret ?_
            refine E.QG.pass_ret ?_
            refine E.QG.block_ret ?_
            refine E.QG.pass_ret ?_
            exact E.QG.result rfl rfl ⟨by rw [daysE_1 hV (.inr (.inr (days_bad hx h29)))], L⟩
        · refine E.GL.done ?_
          refine E.QG.code ?_
          refine E.CG.cond_f rfl ?_
          refine E.CG.exit ?_
          refine E.QG.pass_exit ?_
          refine E.QG.pass_exit ?_
          refine E.QG.block_here ?_
          refine E.QG.code ?_
          refine E.CG.seq ?_
          refine E.CG.list ?_
          refine E.GL.run rfl rfl rfl (E.Runs.assign rfl rfl) ?_
          refine E.GL.done ?_
          refine E.QG.code ?_
          refine E.CG.ret ?_
          exact E.QG.result rfl rfl ⟨by rw [daysE_0 hV h12 (by omega) (days_all hok (by omega))], L⟩
    · refine E.GL.st rfl rfl rfl (E.ST.call rfl ent56 (E.evc rfl (E.evc rfl (E.evc rfl E.evn))) ((within_r b 0 40 false (iff_of_false Bool.false_ne_true h12) _).mono ?_))
      rintro e w12 ⟨rfl, l12⟩
      refine ⟨_, rfl, ?_⟩
      replace b3 := blk_below b3 l12
      replace L := below_step L l12
      refine E.GL.run rfl rfl rfl (E.Runs.not rfl rfl) ?_
      refine E.GL.run rfl rfl rfl (E.Runs.move rfl rfl) ?_
      refine E.GL.skip rfl rfl rfl ?_
      refine E.GL.skip rfl rfl rfl ?_
      refine E.GL.skip rfl rfl rfl ?_
      refine E.GL.run rfl rfl rfl (E.Runs.pick_t rfl rfl rfl) ?_
      refine E.GL.done ?_
      refine E.QG.code ?_
      refine E.CG.cond_t rfl ?_
      refine E.CG.seq ?_
      refine E.CG.list ?_
      refine E.GL.run rfl rfl rfl (E.Runs.assign rfl rfl) ?_
      refine E.GL.done ?_
      refine E.QG.code ?_
      refine E.CG.ret ?_
      refine E.QG.pass_ret ?_
      exact E.QG.result rfl rfl ⟨by rw [daysE_1 hV (.inl h12)], L⟩

end Go.Proofs.Ytbajpjnloikpdaa.T
