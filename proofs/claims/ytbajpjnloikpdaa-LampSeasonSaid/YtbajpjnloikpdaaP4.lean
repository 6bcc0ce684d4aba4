/- The light at an hour, whether a norm is kept, the last hour: the walks. -/
import Derived.Test.YtbajpjnloikpdaaP1
namespace Go.Proofs.Ytbajpjnloikpdaa.T
open Go.RowKit Go.Proofs.YtbajpjnloikpdaaW.PrintWords Go.Proofs.YtbajpjnloikpdaaW.PrintMore
open Go.Proofs.Ytbajpjnloikpdaa.P
set_option linter.unusedVariables false
set_option linter.unusedSimpArgs false

def isK (a b : Int) (x : Ln) (h : Int) : Prop := inR (light x h) a b
instance (a b : Int) (x : Ln) (h : Int) : Decidable (isK a b x h) := by unfold isK; infer_instance
/-- In how many truths a norm is kept at an hour. -/
def cntK (a b : Int) (t : List Ln) (h : Int) : Nat := (t.filter fun x => isK a b x h).length
def keepsT (a b : Int) (t : List Ln) (h : Int) : Int := if cntK a b t h = t.length then 1 else if cntK a b t h = 0 then 2 else 3
theorem cntK_le (a b : Int) (t : List Ln) (h : Int) : cntK a b t h ≤ t.length := List.length_filter_le _ _
theorem cntK_in {a b h : Int} {t : List Ln} {i : Nat} {x : Ln} (hx : t[i]? = some x) (k : isK a b x h) : (cntK a b (t.take (i + 1)) h : Int) = (cntK a b (t.take i) h : Int) + 1 := by
  unfold cntK
  rw [List.take_add_one, hx]
  simp [List.filter_append, k]
theorem cntK_out {a b h : Int} {t : List Ln} {i : Nat} {x : Ln} (hx : t[i]? = some x) (k : ¬ isK a b x h) : (cntK a b (t.take (i + 1)) h : Int) = (cntK a b (t.take i) h : Int) := by
  unfold cntK
  rw [List.take_add_one, hx]
  simp [List.filter_append, k]
/-- The least and the greatest light at an hour. -/
def spanT (x0 : Ln) (t : List Ln) (h : Int) : Int × Int := t.foldl (fun s x => (mn s.1 (light x h), mx s.2 (light x h))) (light x0 h, light x0 h)
theorem spanT_step {x0 x : Ln} {t : List Ln} {h : Int} {i : Nat} (hx : t[i]? = some x) : spanT x0 (t.take (i + 1)) h = (mn (spanT x0 (t.take i) h).1 (light x h), mx (spanT x0 (t.take i) h).2 (light x h)) := by
  unfold spanT
  rw [List.take_add_one, hx]
  simp [List.foldl_append]
/-- The cells of a line in a row. -/
structure LnAt (w : World) (ae : Addr) (k : Nat) (g : Ln) : Prop where
  c0 : w.cell? (ae.add (k * 2)) = some (.int .i64 g.f0)
  c1 : w.cell? ⟨(ae.add (k * 2)).block, (ae.add (k * 2)).off + 1, none⟩ = some (.int .i64 g.f1)
theorem LnAt.below {w w' : World} {ae : Addr} {k : Nat} {g : Ln} (h : LnAt w ae k g) (hb : Below w.heap.size w w') : LnAt w' ae k g := ⟨pw_cell_below hb h.c0, pw_cell_below hb h.c1⟩
theorem line_at {w : World} {A : Option Addr} {n : Nat} {l : List Ln} (h : Kd.C kL w A n l) {i : Nat} {g : Ln} (hi : l[i]? = some g) : ∃ ad, A = some ad ∧ LnAt w ad i g := by
  have hil : i < l.length := (List.getElem?_eq_some_iff.1 hi).1
  have hn := Kd.C_len h
  obtain ⟨ad, e, m0, m1⟩ := at_T80 h (i : Int) (by omega) (by omega)
  have hs : rd_T80 l (i : Int) = g := by unfold rd_T80; simp [List.getD_eq_getElem?_getD, hi]
  rw [hs] at m0 m1
  simp only [Int.toNat_natCast] at m0 m1
  exact ⟨ad, e, m0, m1⟩
theorem LnAt.cells {w : World} {ad : Addr} {k : Nat} {g : Ln} (h : LnAt w ad k g) (j : Nat) (v : Value) (hv : ([.int .i64 g.f0, .int .i64 g.f1] : List Value)[j]? = some v) : w.cell? ((ad.add (k * 2)).add j) = some v := by
  rcases j with _ | _ | j
  · cases hv; exact h.c0
  · cases hv; exact h.c1
  · simp at hv
open Classical in
/-- The first hour from one on, up to a bound, at which something is not so. -/
noncomputable def stopF (so : Int → Prop) (bd : Int) : Nat → Int → Int
  | 0, h => h
  | k + 1, h => if h ≤ bd ∧ so h then stopF so bd k (h + 1) else h
theorem stopF_no {so : Int → Prop} {bd h : Int} (k : Nat) (hn : ¬ (h ≤ bd ∧ so h)) : stopF so bd k h = h := by
  cases k with
  | zero => rfl
  | succ k => simp only [stopF, if_neg hn]
theorem stopF_at {so : Int → Prop} {bd h : Int} {K i : Nat} (hi : i < K) (hy : h + i ≤ bd ∧ so (h + i)) : stopF so bd (K - i) (h + i) = stopF so bd (K - (i + 1)) (h + ((i + 1 : Nat) : Int)) := by
  obtain ⟨k, hk⟩ : ∃ k, K - i = k + 1 := ⟨K - i - 1, by omega⟩
  rw [hk, show K - (i + 1) = k by omega, show h + ((i + 1 : Nat) : Int) = h + (i : Int) + 1 by omega]
  simp only [stopF, if_pos hy]
open Classical in
noncomputable def lastT (so : Int → Prop) (from_ bd : Int) : Int := if stopF so bd (bd - from_ + 1).toNat from_ = from_ then -1 else stopF so bd (bd - from_ + 1).toNat from_ - 1
set_option maxRecDepth 100000 in
set_option maxHeartbeats 8000000 in

theorem keeps_row (a b h : Int) (t : List Ln) (A : Option Addr) (c : Nat) (w : World) (hr : Kd.C kL w A t.length t) (ht : ∀ x ∈ t, PtOk x) (h0 : 0 ≤ h) (h1 : h ≤ 1000) (hn : t.length ≤ 1000000) :
    Calls Try.prog 53 #[.slice A t.length c, .agg #[.int .i64 a, .int .i64 b], .int .i64 h] w fun e w' => e = .returned (.int .i64 (keepsT a b t h)) ∧ Below w.heap.size w w' := by
  have hu3 := Try.underlying3
  have hu23 := Try.underlying23
  have hu72 := Try.underlying72
  have hu80 := Try.underlying80
  obtain ⟨z3, o3⟩ := info_some info3s (by decide)
  obtain ⟨z80, o80⟩ := info_some info80s (by decide)
  refine E.enter (N := 34) Try.func53 rfl Try.ntmps53 (args := [.slice A t.length c, .agg #[.int .i64 a, .int .i64 b], .int .i64 h]) (by simp) ?_
  have L := Below.refl w.heap.size w
  refine E.CG.seq ?_
  refine E.CG.list ?_
  refine E.GL.st rfl rfl rfl (E.ST.box rfl rfl fun g4 w4 e4 b4 l4 => ?_)
  have h4_L : w.heap.size ≤ g4 := by rw [e4]; exact L.size
  replace L := below_step L l4
  refine E.GL.run rfl rfl rfl (E.Runs.assign rfl rfl) ?_
  refine E.GL.done ?_
  refine E.QG.code ?_
  refine E.CG.seq ?_
  refine E.CG.list ?_
  refine E.GL.run rfl rfl rfl (E.Runs.assign rfl rfl) ?_
  refine E.GL.done ?_
  refine E.QG.code ?_
  refine E.CG.seq ?_
  refine E.CG.seq ?_
  refine E.CG.list ?_
  refine E.GL.run rfl rfl rfl (E.Runs.move rfl rfl) ?_
  refine E.GL.run rfl rfl rfl (E.Runs.len rfl rfl hu72) ?_
  refine E.GL.run rfl rfl rfl (E.Runs.move rfl rfl) ?_
  refine E.GL.done ?_
  refine E.QG.code ?_
  refine E.CG.block ?_
  have s3_b4 := b4
  have s3_L := L
  refine E.CG.loop (fun (i : Nat) => [(0, .slice A t.length c), (2, .int .i64 h), (4, .pointer (some ⟨g4, 0, none⟩)), (7, .int .i64 (cntK a b (t.take i) h : Int)), (10, .slice A t.length c), (11, .int .i64 t.length), (12, .int .i64 i)]) (fun i w' => i ≤ t.length ∧ w'.heap[g4]? = some (.cells #[.int .i64 a, .int .i64 b] 23 (0, 0)) ∧ Below w.heap.size w w') (fun i => t.length - i) 0 (E.subc rfl (E.subc rfl (E.subc rfl (E.subc rfl (E.subc rfl (E.subc rfl (E.subc rfl E.subn))))))) ⟨Nat.zero_le _, b4, L⟩ ?_
  rintro i w3 ⟨hi, b4, L⟩
  refine E.CG.seq ?_
  refine E.CG.list ?_
  refine E.GL.cmp rfl rfl rfl (fun _ h => (E.Runs.lss rfl rfl rfl h)) (fun h13 => ?_) (fun h13 => ?_)
  · obtain ⟨x, hx⟩ : ∃ x, t[i]? = some x := ⟨_, List.getElem?_eq_getElem (by omega)⟩
    obtain ⟨ad, eA, X⟩ := line_at hr hx
    have hle := cntK_le a b (t.take i) h
    rw [List.length_take] at hle
    refine E.GL.done ?_
    refine E.QG.code ?_
    refine E.CG.seq ?_
    refine E.CG.cond_t rfl ?_
    refine E.CG.skip ?_
    refine E.QG.code ?_
    refine E.CG.seq ?_
    refine E.CG.block ?_
    refine E.CG.seq ?_
    refine E.CG.list ?_
    refine E.GL.run rfl rfl rfl (E.Runs.indexAddrA rfl rfl rfl hu72 (by assumption) (by assumption) (by assumption) (by first | rfl | assumption) rfl) ?_
    refine E.GL.run rfl rfl rfl (E.Runs.loads (cs := [.int .i64 x.f0, .int .i64 x.f1]) rfl rfl hu80 rfl info80s ((X.below L).cells)) ?_
    refine E.GL.st rfl rfl rfl (E.ST.alloc rfl info80z fun g9 w9 e9 b9 l9 => ?_)
    have h9_L : w.heap.size ≤ g9 := by rw [e9]; exact L.size
    have n9_b4 : g4 ≠ g9 := by have := blk_lt b4; omega
    replace b4 := blk_below b4 l9
    replace L := below_step L l9
    refine E.GL.store_whole rfl rfl rfl rfl rfl b9 rfl info80s (two_one _ _) fun wS4_3 c9 lS4_3 => ?_
    replace b4 := blk_grown b4 lS4_3 (E.nes (by first | assumption | exact Ne.symm (by assumption)))
    replace L := E.below_own L h9_L lS4_3
    replace b9 := c9
    clear c9
    refine E.GL.done ?_
    refine E.QG.code ?_
    refine E.CG.seq ?_
    refine E.CG.heldH (none) (by kernel_rfl) fun v5 lD hh => ?_
    replace b4 := blk_below b4 lD
    replace b9 := blk_below b9 lD
    replace L := below_step L lD
    clear lD
    have s_b4 := b4
    have s_b9 := b9
    have s_L := L
    refine E.GH.take (i := 0) rfl (by kernel_rfl) (by kernel_rfl) (by kernel_rfl) (by intro c a d v w h; cases d <;> exact h) rfl rfl rfl (fun w' hS => (E.Runs.loads (cs := [.int .i64 x.f0, .int .i64 x.f1]) rfl rfl hu80 rfl info80s (blk_cells (blk_grown s_b9 hS E.nen)))) ?_
    refine E.GH.take (i := 1) rfl (by kernel_rfl) (by kernel_rfl) (by kernel_rfl) (by intro c a d v w h; cases d <;> exact h) rfl rfl rfl (fun w' hS => (E.Runs.move rfl rfl)) ?_
    refine E.GH.take (i := 3) rfl (by kernel_rfl) (by kernel_rfl) (by kernel_rfl) (by intro c a d v w h; cases d <;> exact h) rfl rfl rfl (fun w' hS => (E.Runs.fieldAddr rfl rfl hu23 rfl (by assumption) rfl)) ?_
    refine E.GH.take (i := 4) rfl (by kernel_rfl) (by kernel_rfl) (by kernel_rfl) (by intro c a d v w h; cases d <;> exact h) rfl rfl rfl (fun w' hS => (E.Runs.load rfl rfl hu3 (by first | exact E.keeps hS (E.blkc (by assumption) rfl) (by first | exact E.nen | exact E.nes (by assumption) | exact E.nes (Ne.symm (by assumption))) | exact pw_cell_below (below_step s_L (E.belowG hS)) (by assumption)))) ?_
    refine E.GH.take (i := 5) rfl (by kernel_rfl) (by kernel_rfl) (by kernel_rfl) (by intro c a d v w h; cases d <;> exact h) rfl rfl rfl (fun w' hS => (E.Runs.fieldAddr rfl rfl hu23 rfl (by assumption) rfl)) ?_
    refine E.GH.take (i := 6) rfl (by kernel_rfl) (by kernel_rfl) (by kernel_rfl) (by intro c a d v w h; cases d <;> exact h) rfl rfl rfl (fun w' hS => (E.Runs.load rfl rfl hu3 (by first | exact E.keeps hS (E.blkc (by assumption) rfl) (by first | exact E.nen | exact E.nes (by assumption) | exact E.nes (Ne.symm (by assumption))) | exact pw_cell_below (below_step s_L (E.belowG hS)) (by assumption)))) ?_
    refine E.GH.one (i := 2) (by kernel_rfl) rfl ?_
    refine E.GO.st rfl rfl rfl (E.ST.call rfl ent55 (E.evc rfl (E.evc rfl E.evn)) ((at_o x h _ (ht x (List.mem_of_getElem? hx)) h0 h1).mono ?_))
    rintro e w18 ⟨rfl, l18⟩
    refine ⟨_, rfl, hh.trans (E.gbB l18), ?_⟩
    replace hh := hh.trans (E.gbB l18)
    replace b4 := blk_below b4 l18
    replace b9 := blk_below b9 l18
    replace L := below_step L l18
    by_cases h23 : isK a b x h
    · refine E.GH.one (i := 7) (by kernel_rfl) rfl ?_
      refine E.GO.st rfl rfl rfl (E.ST.call rfl ent43 (E.evc rfl (E.evc rfl (E.evc rfl E.evn))) ((within_o (light x h) a b true (iff_of_true rfl h23) _).mono ?_))
      rintro e w23 ⟨rfl, l23⟩
      refine ⟨_, rfl, hh.trans (E.gbB l23), ?_⟩
      replace hh := hh.trans (E.gbB l23)
      replace b4 := blk_below b4 l23
      replace b9 := blk_below b9 l23
      replace L := below_step L l23
      refine E.GH.done (by kernel_rfl) ?_
      refine E.QG.code ?_
      refine E.CG.cond_t rfl ?_
      refine E.CG.list ?_
      have hcnt := cntK_in hx h23
      refine E.GL.run rfl rfl rfl (E.Runs.move rfl rfl) ?_
      refine E.GL.run rfl rfl rfl (E.Runs.add rfl rfl rfl (IntWalk.i64_in _ (by omega))) ?_
      refine E.GL.run rfl rfl rfl (E.Runs.assign rfl rfl) ?_
      refine E.GL.done ?_
      refine E.QG.block_normal ?_
      refine E.QG.code ?_
      refine E.CG.list ?_
      refine E.GL.run rfl rfl rfl (E.Runs.add rfl rfl rfl (IntWalk.i64_in _ (by omega))) ?_
      refine E.GL.run rfl rfl rfl (E.Runs.move rfl rfl) ?_
      refine E.GL.done ?_
      exact E.QG.round (i + 1) (E.subc rfl (E.subc rfl (E.subc rfl (E.subc (by first | (rw [cntK_in hx h23]; rfl) | (rw [cntK_out hx h23]; rfl)) (E.subc rfl (E.subc rfl (E.subc rfl E.subn))))))) ⟨by omega, b4, L⟩ (by omega)
    · refine E.GH.one (i := 7) (by kernel_rfl) rfl ?_
      refine E.GO.st rfl rfl rfl (E.ST.call rfl ent43 (E.evc rfl (E.evc rfl (E.evc rfl E.evn))) ((within_o (light x h) a b false (iff_of_false Bool.false_ne_true h23) _).mono ?_))
      rintro e w23 ⟨rfl, l23⟩
      refine ⟨_, rfl, hh.trans (E.gbB l23), ?_⟩
      replace hh := hh.trans (E.gbB l23)
      replace b4 := blk_below b4 l23
      replace b9 := blk_below b9 l23
      replace L := below_step L l23
      refine E.GH.done (by kernel_rfl) ?_
      refine E.QG.code ?_
      refine E.CG.cond_f rfl ?_
      refine E.CG.skip ?_
      refine E.QG.block_normal ?_
      refine E.QG.code ?_
      refine E.CG.list ?_
      refine E.GL.run rfl rfl rfl (E.Runs.add rfl rfl rfl (IntWalk.i64_in _ (by omega))) ?_
      refine E.GL.run rfl rfl rfl (E.Runs.move rfl rfl) ?_
      refine E.GL.done ?_
      exact E.QG.round (i + 1) (E.subc rfl (E.subc rfl (E.subc rfl (E.subc (by first | (rw [cntK_in hx h23]; rfl) | (rw [cntK_out hx h23]; rfl)) (E.subc rfl (E.subc rfl (E.subc rfl E.subn))))))) ⟨by omega, b4, L⟩ (by omega)
  · obtain rfl : i = t.length := by omega
    refine E.GL.done ?_
    refine E.QG.code ?_
    refine E.CG.seq ?_
    refine E.CG.cond_f rfl ?_
    refine E.CG.exit ?_
    refine E.QG.pass_exit ?_
    refine E.QG.pass_exit ?_
    refine E.QG.block_here ?_
    refine E.QG.code ?_
    refine E.CG.seq ?_
    refine E.CG.seq ?_
    refine E.CG.list ?_
    refine E.GL.run rfl rfl rfl (E.Runs.move rfl rfl) ?_
    refine E.GL.done ?_
    refine E.QG.code ?_
    refine E.CG.block ?_
    refine E.CG.seq ?_
    refine E.CG.list ?_
    refine E.GL.run rfl rfl rfl (E.Runs.move rfl rfl) ?_
    refine E.GL.run rfl rfl rfl (E.Runs.len rfl rfl hu72) ?_
    refine E.GL.cmp rfl rfl rfl (fun _ h => (E.Runs.eql rfl rfl rfl h)) (fun h31 => ?_) (fun h31 => ?_)
    · refine E.GL.run rfl rfl rfl (E.Runs.assign rfl rfl) ?_
      refine E.GL.done ?_
      refine E.QG.code ?_
      refine E.CG.cond_t rfl ?_
      refine E.CG.seq ?_
      refine E.CG.list ?_
      refine E.GL.run rfl rfl rfl (E.Runs.assign rfl rfl) ?_
      refine E.GL.done ?_
      refine E.QG.code ?_
      refine E.CG.ret ?_
      refine E.QG.block_ret ?_
      refine E.QG.pass_ret ?_
      exact E.QG.result rfl rfl ⟨by rw [List.take_length] at h31; unfold keepsT; rw [if_pos (by omega)], L⟩
    · refine E.GL.run rfl rfl rfl (E.Runs.assign rfl rfl) ?_
      refine E.GL.done ?_
      refine E.QG.code ?_
      refine E.CG.cond_f rfl ?_
      refine E.CG.seq ?_
      refine E.CG.list ?_
      refine E.GL.cmp rfl rfl rfl (fun _ h => (E.Runs.eql rfl rfl rfl h)) (fun h33 => ?_) (fun h33 => ?_)
      · refine E.GL.run rfl rfl rfl (E.Runs.assign rfl rfl) ?_
        refine E.GL.done ?_
        refine E.QG.code ?_
        refine E.CG.cond_t rfl ?_
        refine E.CG.seq ?_
        refine E.CG.list ?_
        refine E.GL.run rfl rfl rfl (E.Runs.assign rfl rfl) ?_
        refine E.GL.done ?_
        refine E.QG.code ?_
        refine E.CG.ret ?_
        refine E.QG.block_ret ?_
        refine E.QG.pass_ret ?_
        exact E.QG.result rfl rfl ⟨by rw [List.take_length] at h31 h33; unfold keepsT; rw [if_neg (by omega), if_pos (by omega)], L⟩
      · refine E.GL.run rfl rfl rfl (E.Runs.assign rfl rfl) ?_
        refine E.GL.done ?_
        refine E.QG.code ?_
        refine E.CG.cond_f rfl ?_
        refine E.CG.skip ?_
        refine E.QG.block_normal ?_
        refine E.QG.code ?_
        refine E.CG.seq ?_
        refine E.CG.list ?_
        refine E.GL.run rfl rfl rfl (E.Runs.assign rfl rfl) ?_
        refine E.GL.done ?_
        refine E.QG.code ?_
        refine E.CG.ret ?_
        exact E.QG.result rfl rfl ⟨by rw [List.take_length] at h31 h33; unfold keepsT; rw [if_neg (by omega), if_neg (by omega)], L⟩

theorem info23c : (Try.prog.info? 23).map (·.size) = some (#[(.int .i64 0 : Value), .int .i64 0] : Array Value).size := by kernel_rfl
theorem span_b {x0 : Ln} {h : Int} : ∀ (t : List Ln), (∀ x ∈ t, PtOk x) → PtOk x0 → 0 ≤ h → h ≤ 1000 → True := fun _ _ _ _ _ => trivial
set_option maxRecDepth 100000 in
set_option maxHeartbeats 8000000 in

theorem at_row (h : Int) (x0 : Ln) (t : List Ln) (A : Option Addr) (c : Nat) (w : World) (hr : Kd.C kL w A t.length t) (hx0 : t[0]? = some x0) (ht : ∀ x ∈ t, PtOk x) (h0 : 0 ≤ h) (h1 : h ≤ 1000) (hn : t.length ≤ 1000000) :
    Calls Try.prog 50 #[.slice A t.length c, .int .i64 h] w fun e w' => e = .returned (.agg #[.int .i64 (spanT x0 t h).1, .int .i64 (spanT x0 t h).2]) ∧ Below w.heap.size w w' := by
  have hu3 := Try.underlying3
  have hu23 := Try.underlying23
  have hu72 := Try.underlying72
  have hu80 := Try.underlying80
  obtain ⟨z3, o3⟩ := info_some info3s (by decide)
  obtain ⟨z80, o80⟩ := info_some info80s (by decide)
  obtain ⟨ad0, eA0, X0⟩ := line_at hr hx0
  have hlt0 : 0 < t.length := (List.getElem?_eq_some_iff.1 hx0).1
  refine E.enter (N := 40) Try.func50 rfl Try.ntmps50 (args := [.slice A t.length c, .int .i64 h]) (by simp) ?_
  have L := Below.refl w.heap.size w
  refine E.CG.seq ?_
  refine E.CG.list ?_
  refine E.GL.st rfl rfl rfl (E.ST.alloc rfl info23z fun g4 w4 e4 b4 l4 => ?_)
  have h4_L : w.heap.size ≤ g4 := by rw [e4]; exact L.size
  replace L := below_step L l4
  refine E.GL.done ?_
  refine E.QG.code ?_
  refine E.CG.seq ?_
  refine E.CG.heldH (none) (by kernel_rfl) fun v1 lD hh => ?_
  replace b4 := blk_below b4 lD
  replace L := below_step L lD
  clear lD
  have s_b4 := b4
  have s_L := L
  refine E.GH.take (i := 0) rfl (by kernel_rfl) (by kernel_rfl) (by kernel_rfl) (by intro c a d v w h; cases d <;> exact h) rfl rfl rfl (fun w' hS => (E.Runs.move rfl rfl)) ?_
  refine E.GH.take (i := 1) rfl (by kernel_rfl) (by kernel_rfl) (by kernel_rfl) (by intro c a d v w h; cases d <;> exact h) rfl rfl rfl (fun w' hS => (E.Runs.indexAddrA (i := 0) rfl rfl rfl hu72 z80 o80 (by omega) eA0 rfl)) ?_
  refine E.GH.take (i := 2) rfl (by kernel_rfl) (by kernel_rfl) (by kernel_rfl) (by intro c a d v w h; cases d <;> exact h) rfl rfl rfl (fun w' hS => (E.Runs.loads (cs := [.int .i64 x0.f0, .int .i64 x0.f1]) rfl rfl hu80 rfl info80s ((X0.below (below_step s_L (E.belowG hS))).cells))) ?_
  refine E.GH.take (i := 3) rfl (by kernel_rfl) (by kernel_rfl) (by kernel_rfl) (by intro c a d v w h; cases d <;> exact h) rfl rfl rfl (fun w' hS => (E.Runs.move rfl rfl)) ?_
  refine E.GH.take (i := 5) rfl (by kernel_rfl) (by kernel_rfl) (by kernel_rfl) (by intro c a d v w h; cases d <;> exact h) rfl rfl rfl (fun w' hS => (E.Runs.move rfl rfl)) ?_
  refine E.GH.take (i := 6) rfl (by kernel_rfl) (by kernel_rfl) (by kernel_rfl) (by intro c a d v w h; cases d <;> exact h) rfl rfl rfl (fun w' hS => (E.Runs.indexAddrA (i := 0) rfl rfl rfl hu72 z80 o80 (by omega) eA0 rfl)) ?_
  refine E.GH.take (i := 7) rfl (by kernel_rfl) (by kernel_rfl) (by kernel_rfl) (by intro c a d v w h; cases d <;> exact h) rfl rfl rfl (fun w' hS => (E.Runs.loads (cs := [.int .i64 x0.f0, .int .i64 x0.f1]) rfl rfl hu80 rfl info80s ((X0.below (below_step s_L (E.belowG hS))).cells))) ?_
  refine E.GH.take (i := 8) rfl (by kernel_rfl) (by kernel_rfl) (by kernel_rfl) (by intro c a d v w h; cases d <;> exact h) rfl rfl rfl (fun w' hS => (E.Runs.move rfl rfl)) ?_
  refine E.GH.all (rs := [4, 11]) (by kernel_rfl) (by simp) (E.GHs.cons rfl ?_ (E.GHs.cons rfl ?_ E.GHs.nil))
  · refine E.GO.st rfl rfl rfl (E.ST.call rfl ent55 (E.evc rfl (E.evc rfl E.evn)) ((at_o x0 h _ (ht x0 (List.mem_of_getElem? hx0)) h0 h1).mono ?_))
    rintro e w12 ⟨rfl, l12⟩
    refine ⟨_, rfl, hh.trans (E.gbB l12), ?_⟩
    replace hh := hh.trans (E.gbB l12)
    replace b4 := blk_below b4 l12
    replace L := below_step L l12
    refine E.GH.all (rs := [9, 11]) (by kernel_rfl) (by simp) (E.GHs.cons rfl ?_ (E.GHs.cons rfl ?_ E.GHs.nil))
    · refine E.GO.st rfl rfl rfl (E.ST.call rfl ent55 (E.evc rfl (E.evc rfl E.evn)) ((at_o x0 h _ (ht x0 (List.mem_of_getElem? hx0)) h0 h1).mono ?_))
      rintro e w17 ⟨rfl, l17⟩
      refine ⟨_, rfl, hh.trans (E.gbB l17), ?_⟩
      replace hh := hh.trans (E.gbB l17)
      replace b4 := blk_below b4 l17
      replace L := below_step L l17
      refine E.GH.take (i := 10) rfl (by kernel_rfl) (by kernel_rfl) (by kernel_rfl) (by intro c a d v w h; cases d <;> exact h) rfl rfl rfl (fun w' hS => (E.Runs.build rfl (E.epc rfl (E.epc rfl E.epn)) (build23 _ _))) ?_
      refine E.GH.one (i := 11) (by kernel_rfl) rfl ?_
      refine E.GO.st rfl rfl rfl (E.ST.alloc rfl info23z fun g5 w5 e5 b5 l5 => ⟨hh.trans (E.gbB l5), ?_⟩)
      have hh0 := hh
      replace hh := hh.trans (E.gbB l5)
      have h5_hh : v1.heap.size ≤ g5 := by rw [e5]; exact hh0.size
      have h5_L : w.heap.size ≤ g5 := by rw [e5]; exact L.size
      have n5_b4 : g4 ≠ g5 := by have := blk_lt b4; omega
      clear hh0
      replace b4 := blk_below b4 l5
      replace L := below_step L l5
      refine E.GH.one (i := 12) (by kernel_rfl) rfl ?_
      refine E.GO.sn rfl rfl (E.ST.storeS (off := 0) (cells := [.int .i64 (light x0 h), .int .i64 (light x0 h)]) rfl rfl rfl b5 rfl info23s (two_one _ _) rfl fun wS1_12 c5 lS1_12 => ⟨E.gb_own hh h5_hh lS1_12, ?_⟩)
      replace hh := E.gb_own hh h5_hh lS1_12
      replace b4 := blk_grown b4 lS1_12 (E.nes (by first | assumption | exact Ne.symm (by assumption)))
      replace L := E.below_own L h5_L lS1_12
      replace b5 := c5
      clear c5
      refine E.GH.done (by kernel_rfl) ?_
      refine E.QG.code ?_
      refine E.CG.seq ?_
      refine E.CG.seq ?_
      refine E.CG.list ?_
      refine E.GL.run rfl rfl rfl (E.Runs.move rfl rfl) ?_
      refine E.GL.run rfl rfl rfl (E.Runs.len rfl rfl hu72) ?_
      refine E.GL.run rfl rfl rfl (E.Runs.move rfl rfl) ?_
      refine E.GL.done ?_
      refine E.QG.code ?_
      refine E.CG.block ?_
      have s3_b4 := b4
      have s3_b5 := b5
      have s3_L := L
      refine E.CG.loop (fun (i : Nat) => [(1, .int .i64 h), (4, .pointer (some ⟨g4, 0, none⟩)), (5, .pointer (some ⟨g5, 0, none⟩)), (19, .slice A t.length c), (20, .int .i64 t.length), (21, .int .i64 i)]) (fun i w' => i ≤ t.length ∧ w'.heap[g4]? = some (.cells #[.int .i64 0, .int .i64 0] 23 (0, 0)) ∧ w'.heap[g5]? = some (.cells #[.int .i64 (spanT x0 (t.take i) h).1, .int .i64 (spanT x0 (t.take i) h).2] 23 (0, 0)) ∧ g4 ≠ g5 ∧ w.heap.size ≤ g4 ∧ w.heap.size ≤ g5 ∧ Below w.heap.size w w') (fun i => t.length - i) 0 (E.subc rfl (E.subc rfl (E.subc rfl (E.subc rfl (E.subc rfl (E.subc rfl E.subn)))))) ⟨Nat.zero_le _, b4, b5, n5_b4, h4_L, h5_L, L⟩ ?_
      rintro i w3 ⟨hi, b4, b5, n5_b4, h4_L, h5_L, L⟩
      refine E.CG.seq ?_
      refine E.CG.list ?_
      refine E.GL.cmp rfl rfl rfl (fun _ h => (E.Runs.lss rfl rfl rfl h)) (fun h22 => ?_) (fun h22 => ?_)
      · obtain ⟨x, hx⟩ : ∃ x, t[i]? = some x := ⟨_, List.getElem?_eq_getElem (by omega)⟩
        obtain ⟨ad, eA, X⟩ := line_at hr hx
        refine E.GL.done ?_
        refine E.QG.code ?_
        refine E.CG.seq ?_
        refine E.CG.cond_t rfl ?_
        refine E.CG.skip ?_
        refine E.QG.code ?_
        refine E.CG.seq ?_
        refine E.CG.block ?_
        refine E.CG.seq ?_
        refine E.CG.list ?_
        refine E.GL.run rfl rfl rfl (E.Runs.indexAddrA rfl rfl rfl hu72 (by assumption) (by assumption) (by assumption) (by first | rfl | assumption) rfl) ?_
        refine E.GL.run rfl rfl rfl (E.Runs.loads (cs := [.int .i64 x.f0, .int .i64 x.f1]) rfl rfl hu80 rfl info80s ((X.below L).cells)) ?_
        refine E.GL.st rfl rfl rfl (E.ST.alloc rfl info80z fun g7 w7 e7 b7 l7 => ?_)
        have h7_L : w.heap.size ≤ g7 := by rw [e7]; exact L.size
        have n7_b4 : g4 ≠ g7 := by have := blk_lt b4; omega
        have n7_b5 : g5 ≠ g7 := by have := blk_lt b5; omega
        replace b4 := blk_below b4 l7
        replace b5 := blk_below b5 l7
        replace L := below_step L l7
        refine E.GL.store_whole rfl rfl rfl rfl rfl b7 rfl info80s (two_one _ _) fun wS4_3 c7 lS4_3 => ?_
        replace b4 := blk_grown b4 lS4_3 (E.nes (by first | assumption | exact Ne.symm (by assumption)))
        replace b5 := blk_grown b5 lS4_3 (E.nes (by first | assumption | exact Ne.symm (by assumption)))
        replace L := E.below_own L h7_L lS4_3
        replace b7 := c7
        clear c7
        refine E.GL.done ?_
        refine E.QG.code ?_
        refine E.CG.heldJ 13 (fun v W => v.grownBy W none) (fun _ _ => True) (by kernel_rfl) (by kernel_rfl) (fun v => World.grownBy.refl _ _) fun v5 lD => ?_
        replace b4 := blk_below b4 lD
        replace b5 := blk_below b5 lD
        replace b7 := blk_below b7 lD
        replace L := below_step L lD
        have lD5 := lD
        clear lD
        have s_b4 := b4
        have s_b5 := b5
        have s_b7 := b7
        have s_L := L
        have hh : v5.grownBy v5 none := World.grownBy.refl _ _
        refine E.GJ.take1 (i := 0) rfl (by kernel_rfl) (by kernel_rfl) (by kernel_rfl) (by kernel_rfl) rfl (by kernel_rfl) (by kernel_rfl) (by intro c a d v w h; cases d <;> exact h) rfl rfl rfl (fun w' hS => (E.Runs.fieldAddr rfl rfl hu23 rfl (by assumption) rfl)) ?_
        refine E.GJ.take1 (i := 1) rfl (by kernel_rfl) (by kernel_rfl) (by kernel_rfl) (by kernel_rfl) rfl (by kernel_rfl) (by kernel_rfl) (by intro c a d v w h; cases d <;> exact h) rfl rfl rfl (fun w' hS => (E.Runs.load rfl rfl hu3 (by first | exact E.keeps hS (E.blkc (by assumption) rfl) (by first | exact E.nen | exact E.nes (by assumption) | exact E.nes (Ne.symm (by assumption))) | exact pw_cell_below (below_step s_L (E.belowG hS)) (by assumption)))) ?_
        refine E.GJ.take1 (i := 2) rfl (by kernel_rfl) (by kernel_rfl) (by kernel_rfl) (by kernel_rfl) rfl (by kernel_rfl) (by kernel_rfl) (by intro c a d v w h; cases d <;> exact h) rfl rfl rfl (fun w' hS => (E.Runs.loads (cs := [.int .i64 x.f0, .int .i64 x.f1]) rfl rfl hu80 rfl info80s (blk_cells (blk_grown s_b7 hS E.nen)))) ?_
        refine E.GJ.take1 (i := 3) rfl (by kernel_rfl) (by kernel_rfl) (by kernel_rfl) (by kernel_rfl) rfl (by kernel_rfl) (by kernel_rfl) (by intro c a d v w h; cases d <;> exact h) rfl rfl rfl (fun w' hS => (E.Runs.move rfl rfl)) ?_
        refine E.GJ.take1 (i := 6) rfl (by kernel_rfl) (by kernel_rfl) (by kernel_rfl) (by kernel_rfl) rfl (by kernel_rfl) (by kernel_rfl) (by intro c a d v w h; cases d <;> exact h) rfl rfl rfl (fun w' hS => (E.Runs.fieldAddr rfl rfl hu23 rfl (by assumption) rfl)) ?_
        refine E.GJ.take1 (i := 7) rfl (by kernel_rfl) (by kernel_rfl) (by kernel_rfl) (by kernel_rfl) rfl (by kernel_rfl) (by kernel_rfl) (by intro c a d v w h; cases d <;> exact h) rfl rfl rfl (fun w' hS => (E.Runs.load rfl rfl hu3 (by first | exact E.keeps hS (E.blkc (by assumption) rfl) (by first | exact E.nen | exact E.nes (by assumption) | exact E.nes (Ne.symm (by assumption))) | exact pw_cell_below (below_step s_L (E.belowG hS)) (by assumption)))) ?_
        refine E.GJ.take1 (i := 8) rfl (by kernel_rfl) (by kernel_rfl) (by kernel_rfl) (by kernel_rfl) rfl (by kernel_rfl) (by kernel_rfl) (by intro c a d v w h; cases d <;> exact h) rfl rfl rfl (fun w' hS => (E.Runs.loads (cs := [.int .i64 x.f0, .int .i64 x.f1]) rfl rfl hu80 rfl info80s (blk_cells (blk_grown s_b7 hS E.nen)))) ?_
        refine E.GJ.take1 (i := 9) rfl (by kernel_rfl) (by kernel_rfl) (by kernel_rfl) (by kernel_rfl) rfl (by kernel_rfl) (by kernel_rfl) (by intro c a d v w h; cases d <;> exact h) rfl rfl rfl (fun w' hS => (E.Runs.move rfl rfl)) ?_
        refine E.GJ.one (i := 4) (by kernel_rfl) (E.OJ.st rfl rfl rfl rfl (E.ST.call rfl ent55 (E.evc rfl (E.evc rfl E.evn)) ((at_o x h _ (ht x (List.mem_of_getElem? hx)) h0 h1).mono ?_)))
        rintro e w29 ⟨rfl, l29⟩
        refine ⟨_, rfl, (E.SJ.before (by kernel_rfl)).mpr (hh.trans (E.gbB l29)), ?_⟩
        replace hh := hh.trans (E.gbB l29)
        replace b4 := blk_below b4 l29
        replace b5 := blk_below b5 l29
        replace b7 := blk_below b7 l29
        replace L := below_step L l29
        refine E.GJ.take1 (i := 5) rfl (by kernel_rfl) (by kernel_rfl) (by kernel_rfl) (by kernel_rfl) rfl (by kernel_rfl) (by kernel_rfl) (by intro c a d v w h; cases d <;> exact h) rfl rfl rfl (fun w' hS => (E.Runs.min rfl rfl rfl rfl)) ?_
        refine E.GJ.one (i := 10) (by kernel_rfl) (E.OJ.st rfl rfl rfl rfl (E.ST.call rfl ent55 (E.evc rfl (E.evc rfl E.evn)) ((at_o x h _ (ht x (List.mem_of_getElem? hx)) h0 h1).mono ?_)))
        rintro e w35 ⟨rfl, l35⟩
        refine ⟨_, rfl, (E.SJ.before (by kernel_rfl)).mpr (hh.trans (E.gbB l35)), ?_⟩
        replace hh := hh.trans (E.gbB l35)
        replace b4 := blk_below b4 l35
        replace b5 := blk_below b5 l35
        replace b7 := blk_below b7 l35
        replace L := below_step L l35
        refine E.GJ.take1 (i := 11) rfl (by kernel_rfl) (by kernel_rfl) (by kernel_rfl) (by kernel_rfl) rfl (by kernel_rfl) (by kernel_rfl) (by intro c a d v w h; cases d <;> exact h) rfl rfl rfl (fun w' hS => (E.Runs.max rfl rfl rfl rfl)) ?_
        refine E.GJ.take1 (i := 12) rfl (by kernel_rfl) (by kernel_rfl) (by kernel_rfl) (by kernel_rfl) rfl (by kernel_rfl) (by kernel_rfl) (by intro c a d v w h; cases d <;> exact h) rfl rfl rfl (fun w' hS => (E.Runs.build rfl (E.epc rfl (E.epc rfl E.epn)) (build23 _ _))) ?_
        refine E.GJ.one (i := 13) (by kernel_rfl) (E.OJ.sn rfl rfl rfl (E.ST.storeS (off := 0) (cells := [.int .i64 (mn (spanT x0 (t.take i) h).1 (light x h)), .int .i64 (mx (spanT x0 (t.take i) h).2 (light x h))]) rfl rfl rfl b5 rfl info23s (two_one _ _) rfl fun wJ c5 lJ => ⟨(E.SJ.behind (by kernel_rfl)).mpr trivial, ?_⟩))
        replace b4 := blk_grown b4 lJ (E.nes (by first | assumption | exact Ne.symm (by assumption)))
        replace b7 := blk_grown b7 lJ (E.nes (by first | assumption | exact Ne.symm (by assumption)))
        replace L := E.below_own L h5_L lJ
        replace b5 := c5
        clear c5
        refine E.GJ.done (by kernel_rfl) ?_
        refine E.QG.block_normal ?_
        refine E.QG.code ?_
        refine E.CG.list ?_
        refine E.GL.run rfl rfl rfl (E.Runs.add rfl rfl rfl (IntWalk.i64_in _ (by omega))) ?_
        refine E.GL.run rfl rfl rfl (E.Runs.move rfl rfl) ?_
        refine E.GL.done ?_
        exact E.QG.round (i + 1) (E.subc rfl (E.subc rfl (E.subc rfl (E.subc rfl (E.subc rfl (E.subc rfl E.subn)))))) ⟨by omega, b4, by rw [spanT_step hx]; exact b5, n5_b4, h4_L, h5_L, L⟩ (by omega)
      · obtain rfl : i = t.length := by omega
        refine E.GL.done ?_
        refine E.QG.code ?_
        refine E.CG.seq ?_
        refine E.CG.cond_f rfl ?_
        refine E.CG.exit ?_
        refine E.QG.pass_exit ?_
        refine E.QG.pass_exit ?_
        refine E.QG.block_here ?_
        refine E.QG.code ?_
        refine E.CG.seq ?_
        refine E.CG.list ?_
        refine E.GL.run rfl rfl rfl (E.Runs.loads (cs := [.int .i64 (spanT x0 (t.take t.length) h).1, .int .i64 (spanT x0 (t.take t.length) h).2]) rfl rfl hu23 rfl info23s (blk_cells b5)) ?_
        refine E.GL.store_whole rfl rfl rfl rfl rfl b4 rfl info23s (two_one _ _) fun wS7_1 c4 lS7_1 => ?_
        replace b5 := blk_grown b5 lS7_1 (E.nes (by first | assumption | exact Ne.symm (by assumption)))
        replace L := E.below_own L h4_L lS7_1
        replace b4 := c4
        clear c4
        refine E.GL.done ?_
        refine E.QG.code ?_
        refine E.CG.ret ?_
        exact E.QG.result_c rfl rfl b4 hu23 rfl info23c ⟨by rw [List.take_length], L⟩
    · refine E.GO.st rfl rfl rfl (E.ST.alloc rfl info23z fun g5 w5 e5 b5 l5 => ⟨hh.trans (E.gbB l5), ?_⟩)
      have hh0 := hh
      replace hh := hh.trans (E.gbB l5)
      have h5_hh : v1.heap.size ≤ g5 := by rw [e5]; exact hh0.size
      have h5_L : w.heap.size ≤ g5 := by rw [e5]; exact L.size
      have n5_b4 : g4 ≠ g5 := by have := blk_lt b4; omega
      clear hh0
      replace b4 := blk_below b4 l5
      replace L := below_step L l5
      refine E.GH.one (i := 9) (by kernel_rfl) rfl ?_
      refine E.GO.st rfl rfl rfl (E.ST.call rfl ent55 (E.evc rfl (E.evc rfl E.evn)) ((at_o x0 h _ (ht x0 (List.mem_of_getElem? hx0)) h0 h1).mono ?_))
      rintro e w17 ⟨rfl, l17⟩
      refine ⟨_, rfl, hh.trans (E.gbB l17), ?_⟩
      replace hh := hh.trans (E.gbB l17)
      replace b4 := blk_below b4 l17
      replace b5 := blk_below b5 l17
      replace L := below_step L l17
      refine E.GH.take (i := 10) rfl (by kernel_rfl) (by kernel_rfl) (by kernel_rfl) (by intro c a d v w h; cases d <;> exact h) rfl rfl rfl (fun w' hS => (E.Runs.build rfl (E.epc rfl (E.epc rfl E.epn)) (build23 _ _))) ?_
      refine E.GH.one (i := 12) (by kernel_rfl) rfl ?_
      refine E.GO.sn rfl rfl (E.ST.storeS (off := 0) (cells := [.int .i64 (light x0 h), .int .i64 (light x0 h)]) rfl rfl rfl b5 rfl info23s (two_one _ _) rfl fun wS1_12 c5 lS1_12 => ⟨E.gb_own hh h5_hh lS1_12, ?_⟩)
      replace hh := E.gb_own hh h5_hh lS1_12
      replace b4 := blk_grown b4 lS1_12 (E.nes (by first | assumption | exact Ne.symm (by assumption)))
      replace L := E.below_own L h5_L lS1_12
      replace b5 := c5
      clear c5
      refine E.GH.done (by kernel_rfl) ?_
      refine E.QG.code ?_
      refine E.CG.seq ?_
      refine E.CG.seq ?_
      refine E.CG.list ?_
      refine E.GL.run rfl rfl rfl (E.Runs.move rfl rfl) ?_
      refine E.GL.run rfl rfl rfl (E.Runs.len rfl rfl hu72) ?_
      refine E.GL.run rfl rfl rfl (E.Runs.move rfl rfl) ?_
      refine E.GL.done ?_
      refine E.QG.code ?_
      refine E.CG.block ?_
      have s3_b4 := b4
      have s3_b5 := b5
      have s3_L := L
      refine E.CG.loop (fun (i : Nat) => [(1, .int .i64 h), (4, .pointer (some ⟨g4, 0, none⟩)), (5, .pointer (some ⟨g5, 0, none⟩)), (19, .slice A t.length c), (20, .int .i64 t.length), (21, .int .i64 i)]) (fun i w' => i ≤ t.length ∧ w'.heap[g4]? = some (.cells #[.int .i64 0, .int .i64 0] 23 (0, 0)) ∧ w'.heap[g5]? = some (.cells #[.int .i64 (spanT x0 (t.take i) h).1, .int .i64 (spanT x0 (t.take i) h).2] 23 (0, 0)) ∧ g4 ≠ g5 ∧ w.heap.size ≤ g4 ∧ w.heap.size ≤ g5 ∧ Below w.heap.size w w') (fun i => t.length - i) 0 (E.subc rfl (E.subc rfl (E.subc rfl (E.subc rfl (E.subc rfl (E.subc rfl E.subn)))))) ⟨Nat.zero_le _, b4, b5, n5_b4, h4_L, h5_L, L⟩ ?_
      rintro i w3 ⟨hi, b4, b5, n5_b4, h4_L, h5_L, L⟩
      refine E.CG.seq ?_
      refine E.CG.list ?_
      refine E.GL.cmp rfl rfl rfl (fun _ h => (E.Runs.lss rfl rfl rfl h)) (fun h22 => ?_) (fun h22 => ?_)
      · obtain ⟨x, hx⟩ : ∃ x, t[i]? = some x := ⟨_, List.getElem?_eq_getElem (by omega)⟩
        obtain ⟨ad, eA, X⟩ := line_at hr hx
        refine E.GL.done ?_
        refine E.QG.code ?_
        refine E.CG.seq ?_
        refine E.CG.cond_t rfl ?_
        refine E.CG.skip ?_
        refine E.QG.code ?_
        refine E.CG.seq ?_
        refine E.CG.block ?_
        refine E.CG.seq ?_
        refine E.CG.list ?_
        refine E.GL.run rfl rfl rfl (E.Runs.indexAddrA rfl rfl rfl hu72 (by assumption) (by assumption) (by assumption) (by first | rfl | assumption) rfl) ?_
        refine E.GL.run rfl rfl rfl (E.Runs.loads (cs := [.int .i64 x.f0, .int .i64 x.f1]) rfl rfl hu80 rfl info80s ((X.below L).cells)) ?_
        refine E.GL.st rfl rfl rfl (E.ST.alloc rfl info80z fun g7 w7 e7 b7 l7 => ?_)
        have h7_L : w.heap.size ≤ g7 := by rw [e7]; exact L.size
        have n7_b4 : g4 ≠ g7 := by have := blk_lt b4; omega
        have n7_b5 : g5 ≠ g7 := by have := blk_lt b5; omega
        replace b4 := blk_below b4 l7
        replace b5 := blk_below b5 l7
        replace L := below_step L l7
        refine E.GL.store_whole rfl rfl rfl rfl rfl b7 rfl info80s (two_one _ _) fun wS4_3 c7 lS4_3 => ?_
        replace b4 := blk_grown b4 lS4_3 (E.nes (by first | assumption | exact Ne.symm (by assumption)))
        replace b5 := blk_grown b5 lS4_3 (E.nes (by first | assumption | exact Ne.symm (by assumption)))
        replace L := E.below_own L h7_L lS4_3
        replace b7 := c7
        clear c7
        refine E.GL.done ?_
        refine E.QG.code ?_
        refine E.CG.heldJ 13 (fun v W => v.grownBy W none) (fun _ _ => True) (by kernel_rfl) (by kernel_rfl) (fun v => World.grownBy.refl _ _) fun v5 lD => ?_
        replace b4 := blk_below b4 lD
        replace b5 := blk_below b5 lD
        replace b7 := blk_below b7 lD
        replace L := below_step L lD
        have lD5 := lD
        clear lD
        have s_b4 := b4
        have s_b5 := b5
        have s_b7 := b7
        have s_L := L
        have hh : v5.grownBy v5 none := World.grownBy.refl _ _
        refine E.GJ.take1 (i := 0) rfl (by kernel_rfl) (by kernel_rfl) (by kernel_rfl) (by kernel_rfl) rfl (by kernel_rfl) (by kernel_rfl) (by intro c a d v w h; cases d <;> exact h) rfl rfl rfl (fun w' hS => (E.Runs.fieldAddr rfl rfl hu23 rfl (by assumption) rfl)) ?_
        refine E.GJ.take1 (i := 1) rfl (by kernel_rfl) (by kernel_rfl) (by kernel_rfl) (by kernel_rfl) rfl (by kernel_rfl) (by kernel_rfl) (by intro c a d v w h; cases d <;> exact h) rfl rfl rfl (fun w' hS => (E.Runs.load rfl rfl hu3 (by first | exact E.keeps hS (E.blkc (by assumption) rfl) (by first | exact E.nen | exact E.nes (by assumption) | exact E.nes (Ne.symm (by assumption))) | exact pw_cell_below (below_step s_L (E.belowG hS)) (by assumption)))) ?_
        refine E.GJ.take1 (i := 2) rfl (by kernel_rfl) (by kernel_rfl) (by kernel_rfl) (by kernel_rfl) rfl (by kernel_rfl) (by kernel_rfl) (by intro c a d v w h; cases d <;> exact h) rfl rfl rfl (fun w' hS => (E.Runs.loads (cs := [.int .i64 x.f0, .int .i64 x.f1]) rfl rfl hu80 rfl info80s (blk_cells (blk_grown s_b7 hS E.nen)))) ?_
        refine E.GJ.take1 (i := 3) rfl (by kernel_rfl) (by kernel_rfl) (by kernel_rfl) (by kernel_rfl) rfl (by kernel_rfl) (by kernel_rfl) (by intro c a d v w h; cases d <;> exact h) rfl rfl rfl (fun w' hS => (E.Runs.move rfl rfl)) ?_
        refine E.GJ.take1 (i := 6) rfl (by kernel_rfl) (by kernel_rfl) (by kernel_rfl) (by kernel_rfl) rfl (by kernel_rfl) (by kernel_rfl) (by intro c a d v w h; cases d <;> exact h) rfl rfl rfl (fun w' hS => (E.Runs.fieldAddr rfl rfl hu23 rfl (by assumption) rfl)) ?_
        refine E.GJ.take1 (i := 7) rfl (by kernel_rfl) (by kernel_rfl) (by kernel_rfl) (by kernel_rfl) rfl (by kernel_rfl) (by kernel_rfl) (by intro c a d v w h; cases d <;> exact h) rfl rfl rfl (fun w' hS => (E.Runs.load rfl rfl hu3 (by first | exact E.keeps hS (E.blkc (by assumption) rfl) (by first | exact E.nen | exact E.nes (by assumption) | exact E.nes (Ne.symm (by assumption))) | exact pw_cell_below (below_step s_L (E.belowG hS)) (by assumption)))) ?_
        refine E.GJ.take1 (i := 8) rfl (by kernel_rfl) (by kernel_rfl) (by kernel_rfl) (by kernel_rfl) rfl (by kernel_rfl) (by kernel_rfl) (by intro c a d v w h; cases d <;> exact h) rfl rfl rfl (fun w' hS => (E.Runs.loads (cs := [.int .i64 x.f0, .int .i64 x.f1]) rfl rfl hu80 rfl info80s (blk_cells (blk_grown s_b7 hS E.nen)))) ?_
        refine E.GJ.take1 (i := 9) rfl (by kernel_rfl) (by kernel_rfl) (by kernel_rfl) (by kernel_rfl) rfl (by kernel_rfl) (by kernel_rfl) (by intro c a d v w h; cases d <;> exact h) rfl rfl rfl (fun w' hS => (E.Runs.move rfl rfl)) ?_
        refine E.GJ.one (i := 4) (by kernel_rfl) (E.OJ.st rfl rfl rfl rfl (E.ST.call rfl ent55 (E.evc rfl (E.evc rfl E.evn)) ((at_o x h _ (ht x (List.mem_of_getElem? hx)) h0 h1).mono ?_)))
        rintro e w29 ⟨rfl, l29⟩
        refine ⟨_, rfl, (E.SJ.before (by kernel_rfl)).mpr (hh.trans (E.gbB l29)), ?_⟩
        replace hh := hh.trans (E.gbB l29)
        replace b4 := blk_below b4 l29
        replace b5 := blk_below b5 l29
        replace b7 := blk_below b7 l29
        replace L := below_step L l29
        refine E.GJ.take1 (i := 5) rfl (by kernel_rfl) (by kernel_rfl) (by kernel_rfl) (by kernel_rfl) rfl (by kernel_rfl) (by kernel_rfl) (by intro c a d v w h; cases d <;> exact h) rfl rfl rfl (fun w' hS => (E.Runs.min rfl rfl rfl rfl)) ?_
        refine E.GJ.one (i := 10) (by kernel_rfl) (E.OJ.st rfl rfl rfl rfl (E.ST.call rfl ent55 (E.evc rfl (E.evc rfl E.evn)) ((at_o x h _ (ht x (List.mem_of_getElem? hx)) h0 h1).mono ?_)))
        rintro e w35 ⟨rfl, l35⟩
        refine ⟨_, rfl, (E.SJ.before (by kernel_rfl)).mpr (hh.trans (E.gbB l35)), ?_⟩
        replace hh := hh.trans (E.gbB l35)
        replace b4 := blk_below b4 l35
        replace b5 := blk_below b5 l35
        replace b7 := blk_below b7 l35
        replace L := below_step L l35
        refine E.GJ.take1 (i := 11) rfl (by kernel_rfl) (by kernel_rfl) (by kernel_rfl) (by kernel_rfl) rfl (by kernel_rfl) (by kernel_rfl) (by intro c a d v w h; cases d <;> exact h) rfl rfl rfl (fun w' hS => (E.Runs.max rfl rfl rfl rfl)) ?_
        refine E.GJ.take1 (i := 12) rfl (by kernel_rfl) (by kernel_rfl) (by kernel_rfl) (by kernel_rfl) rfl (by kernel_rfl) (by kernel_rfl) (by intro c a d v w h; cases d <;> exact h) rfl rfl rfl (fun w' hS => (E.Runs.build rfl (E.epc rfl (E.epc rfl E.epn)) (build23 _ _))) ?_
        refine E.GJ.one (i := 13) (by kernel_rfl) (E.OJ.sn rfl rfl rfl (E.ST.storeS (off := 0) (cells := [.int .i64 (mn (spanT x0 (t.take i) h).1 (light x h)), .int .i64 (mx (spanT x0 (t.take i) h).2 (light x h))]) rfl rfl rfl b5 rfl info23s (two_one _ _) rfl fun wJ c5 lJ => ⟨(E.SJ.behind (by kernel_rfl)).mpr trivial, ?_⟩))
        replace b4 := blk_grown b4 lJ (E.nes (by first | assumption | exact Ne.symm (by assumption)))
        replace b7 := blk_grown b7 lJ (E.nes (by first | assumption | exact Ne.symm (by assumption)))
        replace L := E.below_own L h5_L lJ
        replace b5 := c5
        clear c5
        refine E.GJ.done (by kernel_rfl) ?_
        refine E.QG.block_normal ?_
        refine E.QG.code ?_
        refine E.CG.list ?_
        refine E.GL.run rfl rfl rfl (E.Runs.add rfl rfl rfl (IntWalk.i64_in _ (by omega))) ?_
        refine E.GL.run rfl rfl rfl (E.Runs.move rfl rfl) ?_
        refine E.GL.done ?_
        exact E.QG.round (i + 1) (E.subc rfl (E.subc rfl (E.subc rfl (E.subc rfl (E.subc rfl (E.subc rfl E.subn)))))) ⟨by omega, b4, by rw [spanT_step hx]; exact b5, n5_b4, h4_L, h5_L, L⟩ (by omega)
      · obtain rfl : i = t.length := by omega
        refine E.GL.done ?_
        refine E.QG.code ?_
        refine E.CG.seq ?_
        refine E.CG.cond_f rfl ?_
        refine E.CG.exit ?_
        refine E.QG.pass_exit ?_
        refine E.QG.pass_exit ?_
        refine E.QG.block_here ?_
        refine E.QG.code ?_
        refine E.CG.seq ?_
        refine E.CG.list ?_
        refine E.GL.run rfl rfl rfl (E.Runs.loads (cs := [.int .i64 (spanT x0 (t.take t.length) h).1, .int .i64 (spanT x0 (t.take t.length) h).2]) rfl rfl hu23 rfl info23s (blk_cells b5)) ?_
        refine E.GL.store_whole rfl rfl rfl rfl rfl b4 rfl info23s (two_one _ _) fun wS7_1 c4 lS7_1 => ?_
        replace b5 := blk_grown b5 lS7_1 (E.nes (by first | assumption | exact Ne.symm (by assumption)))
        replace L := E.below_own L h4_L lS7_1
        replace b4 := c4
        clear c4
        refine E.GL.done ?_
        refine E.QG.code ?_
        refine E.CG.ret ?_
        exact E.QG.result_c rfl rfl b4 hu23 rfl info23c ⟨by rw [List.take_length], L⟩
  · refine E.GO.st rfl rfl rfl (E.ST.alloc rfl info23z fun g5 w5 e5 b5 l5 => ⟨hh.trans (E.gbB l5), ?_⟩)
    have hh0 := hh
    replace hh := hh.trans (E.gbB l5)
    have h5_hh : v1.heap.size ≤ g5 := by rw [e5]; exact hh0.size
    have h5_L : w.heap.size ≤ g5 := by rw [e5]; exact L.size
    have n5_b4 : g4 ≠ g5 := by have := blk_lt b4; omega
    clear hh0
    replace b4 := blk_below b4 l5
    replace L := below_step L l5
    refine E.GH.one (i := 4) (by kernel_rfl) rfl ?_
    refine E.GO.st rfl rfl rfl (E.ST.call rfl ent55 (E.evc rfl (E.evc rfl E.evn)) ((at_o x0 h _ (ht x0 (List.mem_of_getElem? hx0)) h0 h1).mono ?_))
    rintro e w12 ⟨rfl, l12⟩
    refine ⟨_, rfl, hh.trans (E.gbB l12), ?_⟩
    replace hh := hh.trans (E.gbB l12)
    replace b4 := blk_below b4 l12
    replace b5 := blk_below b5 l12
    replace L := below_step L l12
    refine E.GH.one (i := 9) (by kernel_rfl) rfl ?_
    refine E.GO.st rfl rfl rfl (E.ST.call rfl ent55 (E.evc rfl (E.evc rfl E.evn)) ((at_o x0 h _ (ht x0 (List.mem_of_getElem? hx0)) h0 h1).mono ?_))
    rintro e w17 ⟨rfl, l17⟩
    refine ⟨_, rfl, hh.trans (E.gbB l17), ?_⟩
    replace hh := hh.trans (E.gbB l17)
    replace b4 := blk_below b4 l17
    replace b5 := blk_below b5 l17
    replace L := below_step L l17
    refine E.GH.take (i := 10) rfl (by kernel_rfl) (by kernel_rfl) (by kernel_rfl) (by intro c a d v w h; cases d <;> exact h) rfl rfl rfl (fun w' hS => (E.Runs.build rfl (E.epc rfl (E.epc rfl E.epn)) (build23 _ _))) ?_
    refine E.GH.one (i := 12) (by kernel_rfl) rfl ?_
    refine E.GO.sn rfl rfl (E.ST.storeS (off := 0) (cells := [.int .i64 (light x0 h), .int .i64 (light x0 h)]) rfl rfl rfl b5 rfl info23s (two_one _ _) rfl fun wS1_12 c5 lS1_12 => ⟨E.gb_own hh h5_hh lS1_12, ?_⟩)
    replace hh := E.gb_own hh h5_hh lS1_12
    replace b4 := blk_grown b4 lS1_12 (E.nes (by first | assumption | exact Ne.symm (by assumption)))
    replace L := E.below_own L h5_L lS1_12
    replace b5 := c5
    clear c5
    refine E.GH.done (by kernel_rfl) ?_
    refine E.QG.code ?_
    refine E.CG.seq ?_
    refine E.CG.seq ?_
    refine E.CG.list ?_
    refine E.GL.run rfl rfl rfl (E.Runs.move rfl rfl) ?_
    refine E.GL.run rfl rfl rfl (E.Runs.len rfl rfl hu72) ?_
    refine E.GL.run rfl rfl rfl (E.Runs.move rfl rfl) ?_
    refine E.GL.done ?_
    refine E.QG.code ?_
    refine E.CG.block ?_
    have s3_b4 := b4
    have s3_b5 := b5
    have s3_L := L
    refine E.CG.loop (fun (i : Nat) => [(1, .int .i64 h), (4, .pointer (some ⟨g4, 0, none⟩)), (5, .pointer (some ⟨g5, 0, none⟩)), (19, .slice A t.length c), (20, .int .i64 t.length), (21, .int .i64 i)]) (fun i w' => i ≤ t.length ∧ w'.heap[g4]? = some (.cells #[.int .i64 0, .int .i64 0] 23 (0, 0)) ∧ w'.heap[g5]? = some (.cells #[.int .i64 (spanT x0 (t.take i) h).1, .int .i64 (spanT x0 (t.take i) h).2] 23 (0, 0)) ∧ g4 ≠ g5 ∧ w.heap.size ≤ g4 ∧ w.heap.size ≤ g5 ∧ Below w.heap.size w w') (fun i => t.length - i) 0 (E.subc rfl (E.subc rfl (E.subc rfl (E.subc rfl (E.subc rfl (E.subc rfl E.subn)))))) ⟨Nat.zero_le _, b4, b5, n5_b4, h4_L, h5_L, L⟩ ?_
    rintro i w3 ⟨hi, b4, b5, n5_b4, h4_L, h5_L, L⟩
    refine E.CG.seq ?_
    refine E.CG.list ?_
    refine E.GL.cmp rfl rfl rfl (fun _ h => (E.Runs.lss rfl rfl rfl h)) (fun h22 => ?_) (fun h22 => ?_)
    · obtain ⟨x, hx⟩ : ∃ x, t[i]? = some x := ⟨_, List.getElem?_eq_getElem (by omega)⟩
      obtain ⟨ad, eA, X⟩ := line_at hr hx
      refine E.GL.done ?_
      refine E.QG.code ?_
      refine E.CG.seq ?_
      refine E.CG.cond_t rfl ?_
      refine E.CG.skip ?_
      refine E.QG.code ?_
      refine E.CG.seq ?_
      refine E.CG.block ?_
      refine E.CG.seq ?_
      refine E.CG.list ?_
      refine E.GL.run rfl rfl rfl (E.Runs.indexAddrA rfl rfl rfl hu72 (by assumption) (by assumption) (by assumption) (by first | rfl | assumption) rfl) ?_
      refine E.GL.run rfl rfl rfl (E.Runs.loads (cs := [.int .i64 x.f0, .int .i64 x.f1]) rfl rfl hu80 rfl info80s ((X.below L).cells)) ?_
      refine E.GL.st rfl rfl rfl (E.ST.alloc rfl info80z fun g7 w7 e7 b7 l7 => ?_)
      have h7_L : w.heap.size ≤ g7 := by rw [e7]; exact L.size
      have n7_b4 : g4 ≠ g7 := by have := blk_lt b4; omega
      have n7_b5 : g5 ≠ g7 := by have := blk_lt b5; omega
      replace b4 := blk_below b4 l7
      replace b5 := blk_below b5 l7
      replace L := below_step L l7
      refine E.GL.store_whole rfl rfl rfl rfl rfl b7 rfl info80s (two_one _ _) fun wS4_3 c7 lS4_3 => ?_
      replace b4 := blk_grown b4 lS4_3 (E.nes (by first | assumption | exact Ne.symm (by assumption)))
      replace b5 := blk_grown b5 lS4_3 (E.nes (by first | assumption | exact Ne.symm (by assumption)))
      replace L := E.below_own L h7_L lS4_3
      replace b7 := c7
      clear c7
      refine E.GL.done ?_
      refine E.QG.code ?_
      refine E.CG.heldJ 13 (fun v W => v.grownBy W none) (fun _ _ => True) (by kernel_rfl) (by kernel_rfl) (fun v => World.grownBy.refl _ _) fun v5 lD => ?_
      replace b4 := blk_below b4 lD
      replace b5 := blk_below b5 lD
      replace b7 := blk_below b7 lD
      replace L := below_step L lD
      have lD5 := lD
      clear lD
      have s_b4 := b4
      have s_b5 := b5
      have s_b7 := b7
      have s_L := L
      have hh : v5.grownBy v5 none := World.grownBy.refl _ _
      refine E.GJ.take1 (i := 0) rfl (by kernel_rfl) (by kernel_rfl) (by kernel_rfl) (by kernel_rfl) rfl (by kernel_rfl) (by kernel_rfl) (by intro c a d v w h; cases d <;> exact h) rfl rfl rfl (fun w' hS => (E.Runs.fieldAddr rfl rfl hu23 rfl (by assumption) rfl)) ?_
      refine E.GJ.take1 (i := 1) rfl (by kernel_rfl) (by kernel_rfl) (by kernel_rfl) (by kernel_rfl) rfl (by kernel_rfl) (by kernel_rfl) (by intro c a d v w h; cases d <;> exact h) rfl rfl rfl (fun w' hS => (E.Runs.load rfl rfl hu3 (by first | exact E.keeps hS (E.blkc (by assumption) rfl) (by first | exact E.nen | exact E.nes (by assumption) | exact E.nes (Ne.symm (by assumption))) | exact pw_cell_below (below_step s_L (E.belowG hS)) (by assumption)))) ?_
      refine E.GJ.take1 (i := 2) rfl (by kernel_rfl) (by kernel_rfl) (by kernel_rfl) (by kernel_rfl) rfl (by kernel_rfl) (by kernel_rfl) (by intro c a d v w h; cases d <;> exact h) rfl rfl rfl (fun w' hS => (E.Runs.loads (cs := [.int .i64 x.f0, .int .i64 x.f1]) rfl rfl hu80 rfl info80s (blk_cells (blk_grown s_b7 hS E.nen)))) ?_
      refine E.GJ.take1 (i := 3) rfl (by kernel_rfl) (by kernel_rfl) (by kernel_rfl) (by kernel_rfl) rfl (by kernel_rfl) (by kernel_rfl) (by intro c a d v w h; cases d <;> exact h) rfl rfl rfl (fun w' hS => (E.Runs.move rfl rfl)) ?_
      refine E.GJ.take1 (i := 6) rfl (by kernel_rfl) (by kernel_rfl) (by kernel_rfl) (by kernel_rfl) rfl (by kernel_rfl) (by kernel_rfl) (by intro c a d v w h; cases d <;> exact h) rfl rfl rfl (fun w' hS => (E.Runs.fieldAddr rfl rfl hu23 rfl (by assumption) rfl)) ?_
      refine E.GJ.take1 (i := 7) rfl (by kernel_rfl) (by kernel_rfl) (by kernel_rfl) (by kernel_rfl) rfl (by kernel_rfl) (by kernel_rfl) (by intro c a d v w h; cases d <;> exact h) rfl rfl rfl (fun w' hS => (E.Runs.load rfl rfl hu3 (by first | exact E.keeps hS (E.blkc (by assumption) rfl) (by first | exact E.nen | exact E.nes (by assumption) | exact E.nes (Ne.symm (by assumption))) | exact pw_cell_below (below_step s_L (E.belowG hS)) (by assumption)))) ?_
      refine E.GJ.take1 (i := 8) rfl (by kernel_rfl) (by kernel_rfl) (by kernel_rfl) (by kernel_rfl) rfl (by kernel_rfl) (by kernel_rfl) (by intro c a d v w h; cases d <;> exact h) rfl rfl rfl (fun w' hS => (E.Runs.loads (cs := [.int .i64 x.f0, .int .i64 x.f1]) rfl rfl hu80 rfl info80s (blk_cells (blk_grown s_b7 hS E.nen)))) ?_
      refine E.GJ.take1 (i := 9) rfl (by kernel_rfl) (by kernel_rfl) (by kernel_rfl) (by kernel_rfl) rfl (by kernel_rfl) (by kernel_rfl) (by intro c a d v w h; cases d <;> exact h) rfl rfl rfl (fun w' hS => (E.Runs.move rfl rfl)) ?_
      refine E.GJ.one (i := 4) (by kernel_rfl) (E.OJ.st rfl rfl rfl rfl (E.ST.call rfl ent55 (E.evc rfl (E.evc rfl E.evn)) ((at_o x h _ (ht x (List.mem_of_getElem? hx)) h0 h1).mono ?_)))
      rintro e w29 ⟨rfl, l29⟩
      refine ⟨_, rfl, (E.SJ.before (by kernel_rfl)).mpr (hh.trans (E.gbB l29)), ?_⟩
      replace hh := hh.trans (E.gbB l29)
      replace b4 := blk_below b4 l29
      replace b5 := blk_below b5 l29
      replace b7 := blk_below b7 l29
      replace L := below_step L l29
      refine E.GJ.take1 (i := 5) rfl (by kernel_rfl) (by kernel_rfl) (by kernel_rfl) (by kernel_rfl) rfl (by kernel_rfl) (by kernel_rfl) (by intro c a d v w h; cases d <;> exact h) rfl rfl rfl (fun w' hS => (E.Runs.min rfl rfl rfl rfl)) ?_
      refine E.GJ.one (i := 10) (by kernel_rfl) (E.OJ.st rfl rfl rfl rfl (E.ST.call rfl ent55 (E.evc rfl (E.evc rfl E.evn)) ((at_o x h _ (ht x (List.mem_of_getElem? hx)) h0 h1).mono ?_)))
      rintro e w35 ⟨rfl, l35⟩
      refine ⟨_, rfl, (E.SJ.before (by kernel_rfl)).mpr (hh.trans (E.gbB l35)), ?_⟩
      replace hh := hh.trans (E.gbB l35)
      replace b4 := blk_below b4 l35
      replace b5 := blk_below b5 l35
      replace b7 := blk_below b7 l35
      replace L := below_step L l35
      refine E.GJ.take1 (i := 11) rfl (by kernel_rfl) (by kernel_rfl) (by kernel_rfl) (by kernel_rfl) rfl (by kernel_rfl) (by kernel_rfl) (by intro c a d v w h; cases d <;> exact h) rfl rfl rfl (fun w' hS => (E.Runs.max rfl rfl rfl rfl)) ?_
      refine E.GJ.take1 (i := 12) rfl (by kernel_rfl) (by kernel_rfl) (by kernel_rfl) (by kernel_rfl) rfl (by kernel_rfl) (by kernel_rfl) (by intro c a d v w h; cases d <;> exact h) rfl rfl rfl (fun w' hS => (E.Runs.build rfl (E.epc rfl (E.epc rfl E.epn)) (build23 _ _))) ?_
      refine E.GJ.one (i := 13) (by kernel_rfl) (E.OJ.sn rfl rfl rfl (E.ST.storeS (off := 0) (cells := [.int .i64 (mn (spanT x0 (t.take i) h).1 (light x h)), .int .i64 (mx (spanT x0 (t.take i) h).2 (light x h))]) rfl rfl rfl b5 rfl info23s (two_one _ _) rfl fun wJ c5 lJ => ⟨(E.SJ.behind (by kernel_rfl)).mpr trivial, ?_⟩))
      replace b4 := blk_grown b4 lJ (E.nes (by first | assumption | exact Ne.symm (by assumption)))
      replace b7 := blk_grown b7 lJ (E.nes (by first | assumption | exact Ne.symm (by assumption)))
      replace L := E.below_own L h5_L lJ
      replace b5 := c5
      clear c5
      refine E.GJ.done (by kernel_rfl) ?_
      refine E.QG.block_normal ?_
      refine E.QG.code ?_
      refine E.CG.list ?_
      refine E.GL.run rfl rfl rfl (E.Runs.add rfl rfl rfl (IntWalk.i64_in _ (by omega))) ?_
      refine E.GL.run rfl rfl rfl (E.Runs.move rfl rfl) ?_
      refine E.GL.done ?_
      exact E.QG.round (i + 1) (E.subc rfl (E.subc rfl (E.subc rfl (E.subc rfl (E.subc rfl (E.subc rfl E.subn)))))) ⟨by omega, b4, by rw [spanT_step hx]; exact b5, n5_b4, h4_L, h5_L, L⟩ (by omega)
    · obtain rfl : i = t.length := by omega
      refine E.GL.done ?_
      refine E.QG.code ?_
      refine E.CG.seq ?_
      refine E.CG.cond_f rfl ?_
      refine E.CG.exit ?_
      refine E.QG.pass_exit ?_
      refine E.QG.pass_exit ?_
      refine E.QG.block_here ?_
      refine E.QG.code ?_
      refine E.CG.seq ?_
      refine E.CG.list ?_
      refine E.GL.run rfl rfl rfl (E.Runs.loads (cs := [.int .i64 (spanT x0 (t.take t.length) h).1, .int .i64 (spanT x0 (t.take t.length) h).2]) rfl rfl hu23 rfl info23s (blk_cells b5)) ?_
      refine E.GL.store_whole rfl rfl rfl rfl rfl b4 rfl info23s (two_one _ _) fun wS7_1 c4 lS7_1 => ?_
      replace b5 := blk_grown b5 lS7_1 (E.nes (by first | assumption | exact Ne.symm (by assumption)))
      replace L := E.below_own L h4_L lS7_1
      replace b4 := c4
      clear c4
      refine E.GL.done ?_
      refine E.QG.code ?_
      refine E.CG.ret ?_
      exact E.QG.result_c rfl rfl b4 hu23 rfl info23c ⟨by rw [List.take_length], L⟩

set_option maxRecDepth 100000 in
set_option maxHeartbeats 8000000 in

theorem clo52 (M : Lm) (t : List Ln) (A A2 : Option Addr) (c c2 gt gl : Nat) (h : Int) (r : Bool) (hb : r = true ↔ keepsT M.nl M.nh t h = 1) (w : World) (bt : w.heap[gt]? = some (.cells #[.slice A2 t.length c2] 72 (0, 0))) (bl : w.heap[gl]? = some (.cells #[.int .i64 M.fl, .int .i64 M.fh, .int .i64 M.al, .int .i64 M.ah, .int .i64 M.nl, .int .i64 M.nh, .int .i64 M.ra, .slice A M.gs.length c, .int .i64 M.wr] 26 (0, 0))) (hr : Kd.C kL w A2 t.length t) (ht : ∀ x ∈ t, PtOk x) (h0 : 0 ≤ h) (h1 : h ≤ 1000) (hn : t.length ≤ 1000000) :
    Calls Try.prog 52 #[.int .i64 h, .pointer (some ⟨gt, 0, none⟩), .pointer (some ⟨gl, 0, none⟩)] w fun e w' => e = .returned (.bool r) ∧ Below w.heap.size w w' := by
  have hu3 := Try.underlying3
  have hu23 := Try.underlying23
  have hu26 := Try.underlying26
  have hu72 := Try.underlying72
  obtain ⟨z3, o3⟩ := info_some info3s (by decide)
  obtain ⟨z23, o23⟩ := info_some info23s (by decide)
  refine E.enter (N := 11) Try.func52 rfl Try.ntmps52 (args := [.int .i64 h, .pointer (some ⟨gt, 0, none⟩), .pointer (some ⟨gl, 0, none⟩)]) (by simp) ?_
  have L := Below.refl w.heap.size w
  refine E.CG.seq ?_
  refine E.CG.list ?_
  refine E.GL.run rfl rfl rfl (E.Runs.assign rfl rfl) ?_
  refine E.GL.done ?_
  refine E.QG.code ?_
  refine E.CG.seq ?_
  refine E.CG.list ?_
  refine E.GL.run rfl rfl rfl (E.Runs.load1 rfl rfl hu72 rfl (by first | assumption | exact E.blkc (by assumption) rfl | exact pw_cell_below L (by assumption))) ?_
  refine E.GL.run rfl rfl rfl (E.Runs.fieldAddr rfl rfl hu26 rfl (by assumption) rfl) ?_
  refine E.GL.run rfl rfl rfl (E.Runs.loads (cs := [.int .i64 M.nl, .int .i64 M.nh]) rfl rfl hu23 rfl info23s (cells2 bl 4 rfl rfl)) ?_
  refine E.GL.run rfl rfl rfl (E.Runs.move rfl rfl) ?_
  refine E.GL.st rfl rfl rfl (E.ST.call rfl ent53 (E.evc rfl (E.evc rfl (E.evc rfl E.evn))) ((keeps_row M.nl M.nh h t A2 c2 _ (Kd.C_below hr L) ht h0 h1 hn).mono ?_))
  rintro e w9 ⟨rfl, l9⟩
  refine ⟨_, rfl, ?_⟩
  replace L := below_step L l9
  refine E.GL.cmp rfl rfl rfl (fun _ h => (E.Runs.eql rfl rfl rfl h)) (fun h10 => ?_) (fun h10 => ?_)
  · refine E.GL.run rfl rfl rfl (E.Runs.assign rfl rfl) ?_
    refine E.GL.done ?_
    refine E.QG.code ?_
    refine E.CG.ret ?_
    exact E.QG.result rfl rfl ⟨by rw [hb.mpr h10], L⟩
  · refine E.GL.run rfl rfl rfl (E.Runs.assign rfl rfl) ?_
    refine E.GL.done ?_
    refine E.QG.code ?_
    refine E.CG.ret ?_
    exact E.QG.result rfl rfl ⟨by rw [bool_no hb h10], L⟩

set_option maxRecDepth 100000 in
set_option maxHeartbeats 8000000 in

theorem clo68 (M : Lm) (t : List Ln) (A A2 : Option Addr) (c c2 gt gl : Nat) (h : Int) (r : Bool) (hb : r = true ↔ keepsT M.nl M.nh t h = 1) (w : World) (bt : w.heap[gt]? = some (.cells #[.slice A2 t.length c2] 72 (0, 0))) (bl : w.heap[gl]? = some (.cells #[.int .i64 M.fl, .int .i64 M.fh, .int .i64 M.al, .int .i64 M.ah, .int .i64 M.nl, .int .i64 M.nh, .int .i64 M.ra, .slice A M.gs.length c, .int .i64 M.wr] 26 (0, 0))) (hr : Kd.C kL w A2 t.length t) (ht : ∀ x ∈ t, PtOk x) (h0 : 0 ≤ h) (h1 : h ≤ 1000) (hn : t.length ≤ 1000000) :
    Calls Try.prog 68 #[.int .i64 h, .pointer (some ⟨gt, 0, none⟩), .pointer (some ⟨gl, 0, none⟩)] w fun e w' => e = .returned (.bool r) ∧ Below w.heap.size w w' := by
  have hu3 := Try.underlying3
  have hu23 := Try.underlying23
  have hu26 := Try.underlying26
  have hu72 := Try.underlying72
  obtain ⟨z3, o3⟩ := info_some info3s (by decide)
  obtain ⟨z23, o23⟩ := info_some info23s (by decide)
  refine E.enter (N := 11) Try.func68 rfl Try.ntmps68 (args := [.int .i64 h, .pointer (some ⟨gt, 0, none⟩), .pointer (some ⟨gl, 0, none⟩)]) (by simp) ?_
  have L := Below.refl w.heap.size w
  refine E.CG.seq ?_
  refine E.CG.list ?_
  refine E.GL.run rfl rfl rfl (E.Runs.assign rfl rfl) ?_
  refine E.GL.done ?_
  refine E.QG.code ?_
  refine E.CG.seq ?_
  refine E.CG.list ?_
  refine E.GL.run rfl rfl rfl (E.Runs.load1 rfl rfl hu72 rfl (by first | assumption | exact E.blkc (by assumption) rfl | exact pw_cell_below L (by assumption))) ?_
  refine E.GL.run rfl rfl rfl (E.Runs.fieldAddr rfl rfl hu26 rfl (by assumption) rfl) ?_
  refine E.GL.run rfl rfl rfl (E.Runs.loads (cs := [.int .i64 M.nl, .int .i64 M.nh]) rfl rfl hu23 rfl info23s (cells2 bl 4 rfl rfl)) ?_
  refine E.GL.run rfl rfl rfl (E.Runs.move rfl rfl) ?_
  refine E.GL.st rfl rfl rfl (E.ST.call rfl ent53 (E.evc rfl (E.evc rfl (E.evc rfl E.evn))) ((keeps_row M.nl M.nh h t A2 c2 _ (Kd.C_below hr L) ht h0 h1 hn).mono ?_))
  rintro e w9 ⟨rfl, l9⟩
  refine ⟨_, rfl, ?_⟩
  replace L := below_step L l9
  refine E.GL.cmp rfl rfl rfl (fun _ h => (E.Runs.eql rfl rfl rfl h)) (fun h10 => ?_) (fun h10 => ?_)
  · refine E.GL.run rfl rfl rfl (E.Runs.assign rfl rfl) ?_
    refine E.GL.done ?_
    refine E.QG.code ?_
    refine E.CG.ret ?_
    exact E.QG.result rfl rfl ⟨by rw [hb.mpr h10], L⟩
  · refine E.GL.run rfl rfl rfl (E.Runs.assign rfl rfl) ?_
    refine E.GL.done ?_
    refine E.QG.code ?_
    refine E.CG.ret ?_
    exact E.QG.result rfl rfl ⟨by rw [bool_no hb h10], L⟩

set_option maxRecDepth 100000 in
set_option maxHeartbeats 8000000 in

theorem clo54 (M : Lm) (x : Ln) (A : Option Addr) (c gx gl : Nat) (h : Int) (r : Bool) (hb : r = true ↔ isK M.nl M.nh x h) (w : World) (bx : w.heap[gx]? = some (.cells #[.int .i64 x.f0, .int .i64 x.f1] 80 (0, 0))) (bl : w.heap[gl]? = some (.cells #[.int .i64 M.fl, .int .i64 M.fh, .int .i64 M.al, .int .i64 M.ah, .int .i64 M.nl, .int .i64 M.nh, .int .i64 M.ra, .slice A M.gs.length c, .int .i64 M.wr] 26 (0, 0))) (hx : PtOk x) (h0 : 0 ≤ h) (h1 : h ≤ 1000) :
    Calls Try.prog 54 #[.int .i64 h, .pointer (some ⟨gx, 0, none⟩), .pointer (some ⟨gl, 0, none⟩)] w fun e w' => e = .returned (.bool r) ∧ Below w.heap.size w w' := by
  have hu3 := Try.underlying3
  have hu23 := Try.underlying23
  have hu26 := Try.underlying26
  have hu80 := Try.underlying80
  obtain ⟨z3, o3⟩ := info_some info3s (by decide)
  obtain ⟨z23, o23⟩ := info_some info23s (by decide)
  refine E.enter (N := 15) Try.func54 rfl Try.ntmps54 (args := [.int .i64 h, .pointer (some ⟨gx, 0, none⟩), .pointer (some ⟨gl, 0, none⟩)]) (by simp) ?_
  have L := Below.refl w.heap.size w
  refine E.CG.seq ?_
  refine E.CG.list ?_
  refine E.GL.run rfl rfl rfl (E.Runs.assign rfl rfl) ?_
  refine E.GL.done ?_
  refine E.QG.code ?_
  refine E.CG.seq ?_
  refine E.CG.heldH (none) (by kernel_rfl) fun v1 lD hh => ?_
  replace bx := blk_below bx lD
  replace bl := blk_below bl lD
  replace L := below_step L lD
  clear lD
  have s_bx := bx
  have s_bl := bl
  have s_L := L
  refine E.GH.take (i := 0) rfl (by kernel_rfl) (by kernel_rfl) (by kernel_rfl) (by intro c a d v w h; cases d <;> exact h) rfl rfl rfl (fun w' hS => (E.Runs.loads (cs := [.int .i64 x.f0, .int .i64 x.f1]) rfl rfl hu80 rfl info80s (blk_cells (blk_grown s_bx hS E.nen)))) ?_
  refine E.GH.take (i := 1) rfl (by kernel_rfl) (by kernel_rfl) (by kernel_rfl) (by intro c a d v w h; cases d <;> exact h) rfl rfl rfl (fun w' hS => (E.Runs.move rfl rfl)) ?_
  refine E.GH.take (i := 3) rfl (by kernel_rfl) (by kernel_rfl) (by kernel_rfl) (by intro c a d v w h; cases d <;> exact h) rfl rfl rfl (fun w' hS => (E.Runs.fieldAddr rfl rfl hu26 rfl (by assumption) rfl)) ?_
  refine E.GH.take (i := 4) rfl (by kernel_rfl) (by kernel_rfl) (by kernel_rfl) (by intro c a d v w h; cases d <;> exact h) rfl rfl rfl (fun w' hS => (E.Runs.fieldAddr rfl rfl hu23 rfl (by assumption) rfl)) ?_
  refine E.GH.take (i := 5) rfl (by kernel_rfl) (by kernel_rfl) (by kernel_rfl) (by intro c a d v w h; cases d <;> exact h) rfl rfl rfl (fun w' hS => (E.Runs.load rfl rfl hu3 (by first | exact E.keeps hS (E.blkc (by assumption) rfl) (by first | exact E.nen | exact E.nes (by assumption) | exact E.nes (Ne.symm (by assumption))) | exact pw_cell_below (below_step s_L (E.belowG hS)) (by assumption)))) ?_
  refine E.GH.take (i := 6) rfl (by kernel_rfl) (by kernel_rfl) (by kernel_rfl) (by intro c a d v w h; cases d <;> exact h) rfl rfl rfl (fun w' hS => (E.Runs.fieldAddr rfl rfl hu26 rfl (by assumption) rfl)) ?_
  refine E.GH.take (i := 7) rfl (by kernel_rfl) (by kernel_rfl) (by kernel_rfl) (by intro c a d v w h; cases d <;> exact h) rfl rfl rfl (fun w' hS => (E.Runs.fieldAddr rfl rfl hu23 rfl (by assumption) rfl)) ?_
  refine E.GH.take (i := 8) rfl (by kernel_rfl) (by kernel_rfl) (by kernel_rfl) (by intro c a d v w h; cases d <;> exact h) rfl rfl rfl (fun w' hS => (E.Runs.load rfl rfl hu3 (by first | exact E.keeps hS (E.blkc (by assumption) rfl) (by first | exact E.nen | exact E.nes (by assumption) | exact E.nes (Ne.symm (by assumption))) | exact pw_cell_below (below_step s_L (E.belowG hS)) (by assumption)))) ?_
  refine E.GH.one (i := 2) (by kernel_rfl) rfl ?_
  refine E.GO.st rfl rfl rfl (E.ST.call rfl ent55 (E.evc rfl (E.evc rfl E.evn)) ((at_o x h _ hx h0 h1).mono ?_))
  rintro e w7 ⟨rfl, l7⟩
  refine ⟨_, rfl, hh.trans (E.gbB l7), ?_⟩
  replace hh := hh.trans (E.gbB l7)
  replace bx := blk_below bx l7
  replace bl := blk_below bl l7
  replace L := below_step L l7
  refine E.GH.one (i := 9) (by kernel_rfl) rfl ?_
  refine E.GO.st rfl rfl rfl (E.ST.call rfl ent43 (E.evc rfl (E.evc rfl (E.evc rfl E.evn))) ((within_o (light x h) M.nl M.nh r hb _).mono ?_))
  rintro e w14 ⟨rfl, l14⟩
  refine ⟨_, rfl, hh.trans (E.gbB l14), ?_⟩
  replace hh := hh.trans (E.gbB l14)
  replace bx := blk_below bx l14
  replace bl := blk_below bl l14
  replace L := below_step L l14
  refine E.GH.take (i := 10) rfl (by kernel_rfl) (by kernel_rfl) (by kernel_rfl) (by intro c a d v w h; cases d <;> exact h) rfl rfl rfl (fun w' hS => (E.Runs.assign rfl rfl)) ?_
  refine E.GH.done (by kernel_rfl) ?_
  refine E.QG.code ?_
  refine E.CG.ret ?_
  exact E.QG.result rfl rfl ⟨rfl, L⟩

set_option maxRecDepth 100000 in
set_option maxHeartbeats 8000000 in

theorem last_calls (f : FuncId) (cap : List Value) (so : Int → Prop) (from_ bd : Int) (w : World) (hent : ∀ args W, (callFunc f args).run Try.prog W = .ok (.enter f args) W) (h0 : 0 ≤ from_ ∧ from_ ≤ 100) (h1 : -1 ≤ bd ∧ bd ≤ 100)
    (hso : ∀ (h : Int) (r : Bool) (W : World), (r = true ↔ so h) → from_ ≤ h → h ≤ bd → Below w.heap.size w W → Calls Try.prog f ([Value.int .i64 h] ++ cap).toArray W fun e w' => e = .returned (.bool r) ∧ Below W.heap.size W w') :
    Calls Try.prog 51 #[.int .i64 from_, .int .i64 bd, .func (.func f) #[] cap.toArray] w fun e w' => e = .returned (.int .i64 (lastT so from_ bd)) ∧ Below w.heap.size w w' := by
  obtain ⟨K, hK⟩ : ∃ K, K = (bd - from_ + 1).toNat := ⟨_, rfl⟩
  refine E.enter (N := 24) Try.func51 rfl Try.ntmps51 (args := [.int .i64 from_, .int .i64 bd, .func (.func f) #[] cap.toArray]) (by simp) ?_
  have L := Below.refl w.heap.size w
  refine E.CG.seq ?_
  refine E.CG.list ?_
  refine E.GL.run rfl rfl rfl (E.Runs.assign rfl rfl) ?_
  refine E.GL.done ?_
  refine E.QG.code ?_
  refine E.CG.seq ?_
  refine E.CG.list ?_
  refine E.GL.run rfl rfl rfl (E.Runs.move rfl rfl) ?_
  refine E.GL.run rfl rfl rfl (E.Runs.assign rfl rfl) ?_
  refine E.GL.done ?_
  refine E.QG.code ?_
  refine E.CG.seq ?_
  refine E.CG.block ?_
  have s2_L := L
  refine E.CG.loop (fun (i : Nat) => [(0, .int .i64 from_), (1, .int .i64 bd), (2, .func (.func f) #[] cap.toArray), (7, .int .i64 (from_ + i))]) (fun i w' => (i = 0 ∨ i ≤ K) ∧ Below w.heap.size w w' ∧ stopF so bd K from_ = stopF so bd (K - i) (from_ + i)) (fun i => K - i) 0 (E.subc rfl (E.subc rfl (E.subc rfl (E.subc (congrArg (fun t => some (Value.int .i64 t)) (show from_ = from_ + ((0 : Nat) : Int) by omega)) E.subn)))) ⟨.inl rfl, L, by rw [Nat.sub_zero, show from_ + ((0 : Nat) : Int) = from_ by omega]⟩ ?_
  rintro i w2 ⟨hi, L, hq⟩
  refine E.CG.seq ?_
  refine E.CG.seq ?_
  refine E.CG.list ?_
  refine E.GL.run rfl rfl rfl (E.Runs.move rfl rfl) ?_
  refine E.GL.run rfl rfl rfl (E.Runs.move rfl rfl) ?_
  refine E.GL.cmp rfl rfl rfl (fun _ h => (E.Runs.leq rfl rfl rfl h)) (fun h11 => ?_) (fun h11 => ?_)
  · have hiK : i < K := by omega
    refine E.GL.run rfl rfl rfl (E.Runs.move rfl rfl) ?_
    refine E.GL.run rfl rfl rfl (E.Runs.move rfl rfl) ?_
    refine E.GL.run rfl rfl rfl (E.Runs.move rfl rfl) ?_
    by_cases h15 : so (from_ + i)
    · have hst := stopF_at hiK ⟨by omega, h15⟩
      refine E.GL.st rfl rfl rfl (E.ST.callV rfl hent rfl (E.evc rfl E.evn) ((hso (from_ + i) true _ (iff_of_true rfl h15) (by omega) (by omega) L).mono ?_))
      rintro e w15 ⟨rfl, l15⟩
      refine ⟨_, rfl, ?_⟩
      replace L := below_step L l15
      refine E.GL.run rfl rfl rfl (E.Runs.pick_t rfl rfl rfl) ?_
      refine E.GL.done ?_
      refine E.QG.code ?_
      refine E.CG.cond_t rfl ?_
      refine E.CG.skip ?_
      refine E.QG.code ?_
      refine E.CG.block ?_
      refine E.CG.list ?_
      refine E.GL.run rfl rfl rfl (E.Runs.move rfl rfl) ?_
      refine E.GL.run rfl rfl rfl (E.Runs.add rfl rfl rfl (IntWalk.i64_in _ (by omega))) ?_
      refine E.GL.run rfl rfl rfl (E.Runs.assign rfl rfl) ?_
      refine E.GL.done ?_
      refine E.QG.block_normal ?_
      exact E.QG.round (i + 1) (E.subc rfl (E.subc rfl (E.subc rfl (E.subc (by rw [show from_ + ((i + 1 : Nat) : Int) = from_ + (i : Int) + 1 by omega]; rfl) E.subn)))) ⟨.inr (by omega), L, by rw [hq, hst]⟩ (by omega)
    · have hst := stopF_no (so := so) (K - i) (show ¬ (from_ + (i : Int) ≤ bd ∧ so (from_ + i)) from fun k => h15 k.2)
      refine E.GL.st rfl rfl rfl (E.ST.callV rfl hent rfl (E.evc rfl E.evn) ((hso (from_ + i) false _ (iff_of_false Bool.false_ne_true h15) (by omega) (by omega) L).mono ?_))
      rintro e w15 ⟨rfl, l15⟩
      refine ⟨_, rfl, ?_⟩
      replace L := below_step L l15
      refine E.GL.run rfl rfl rfl (E.Runs.pick_t rfl rfl rfl) ?_
      refine E.GL.done ?_
      refine E.QG.code ?_
      refine E.CG.cond_f rfl ?_
      refine E.CG.exit ?_
      refine E.QG.pass_exit ?_
      refine E.QG.pass_exit ?_
      refine E.QG.block_here ?_
      refine E.QG.code ?_
      refine E.CG.seq ?_
      refine E.CG.seq ?_
      refine E.CG.list ?_
      refine E.GL.run rfl rfl rfl (E.Runs.move rfl rfl) ?_
      refine E.GL.run rfl rfl rfl (E.Runs.move rfl rfl) ?_
      refine E.GL.cmp rfl rfl rfl (fun _ h => (E.Runs.eql rfl rfl rfl h)) (fun h21 => ?_) (fun h21 => ?_)
      · refine E.GL.done ?_
        refine E.QG.code ?_
        refine E.CG.cond_t rfl ?_
        refine E.CG.seq ?_
        refine E.CG.list ?_
        refine E.GL.run rfl rfl rfl (E.Runs.assign rfl rfl) ?_
        refine E.GL.done ?_
        refine E.QG.code ?_
        refine E.CG.ret ?_
        refine E.QG.pass_ret ?_
        exact E.QG.result rfl rfl ⟨by unfold lastT; rw [← hK, hq, hst, if_pos h21], L⟩
      · refine E.GL.done ?_
        refine E.QG.code ?_
        refine E.CG.cond_f rfl ?_
        refine E.CG.skip ?_
        refine E.QG.code ?_
        refine E.CG.seq ?_
        refine E.CG.list ?_
        refine E.GL.run rfl rfl rfl (E.Runs.move rfl rfl) ?_
        refine E.GL.run rfl rfl rfl (E.Runs.sub rfl rfl rfl (IntWalk.i64_in _ (by omega))) ?_
        refine E.GL.run rfl rfl rfl (E.Runs.assign rfl rfl) ?_
        refine E.GL.done ?_
        refine E.QG.code ?_
        refine E.CG.ret ?_
        exact E.QG.result rfl rfl ⟨by unfold lastT; rw [← hK, hq, hst, if_neg h21], L⟩
  · have hst := stopF_no (so := so) (K - i) (show ¬ (from_ + (i : Int) ≤ bd ∧ so (from_ + i)) from fun k => by omega)
    refine E.GL.run rfl rfl rfl (E.Runs.move rfl rfl) ?_
    refine E.GL.skip rfl rfl rfl ?_
    refine E.GL.skip rfl rfl rfl ?_
    refine E.GL.skip rfl rfl rfl ?_
    refine E.GL.run rfl rfl rfl (E.Runs.pick_f rfl rfl rfl) ?_
    refine E.GL.done ?_
    refine E.QG.code ?_
    refine E.CG.cond_f rfl ?_
    refine E.CG.exit ?_
    refine E.QG.pass_exit ?_
    refine E.QG.pass_exit ?_
    refine E.QG.block_here ?_
    refine E.QG.code ?_
    refine E.CG.seq ?_
    refine E.CG.seq ?_
    refine E.CG.list ?_
    refine E.GL.run rfl rfl rfl (E.Runs.move rfl rfl) ?_
    refine E.GL.run rfl rfl rfl (E.Runs.move rfl rfl) ?_
    refine E.GL.cmp rfl rfl rfl (fun _ h => (E.Runs.eql rfl rfl rfl h)) (fun h21 => ?_) (fun h21 => ?_)
    · refine E.GL.done ?_
      refine E.QG.code ?_
      refine E.CG.cond_t rfl ?_
      refine E.CG.seq ?_
      refine E.CG.list ?_
      refine E.GL.run rfl rfl rfl (E.Runs.assign rfl rfl) ?_
      refine E.GL.done ?_
      refine E.QG.code ?_
      refine E.CG.ret ?_
      refine E.QG.pass_ret ?_
      exact E.QG.result rfl rfl ⟨by unfold lastT; rw [← hK, hq, hst, if_pos h21], L⟩
    · refine E.GL.done ?_
      refine E.QG.code ?_
      refine E.CG.cond_f rfl ?_
      refine E.CG.skip ?_
      refine E.QG.code ?_
      refine E.CG.seq ?_
      refine E.CG.list ?_
      refine E.GL.run rfl rfl rfl (E.Runs.move rfl rfl) ?_
      refine E.GL.run rfl rfl rfl (E.Runs.sub rfl rfl rfl (IntWalk.i64_in _ (by omega))) ?_
      refine E.GL.run rfl rfl rfl (E.Runs.assign rfl rfl) ?_
      refine E.GL.done ?_
      refine E.QG.code ?_
      refine E.CG.ret ?_
      exact E.QG.result rfl rfl ⟨by unfold lastT; rw [← hK, hq, hst, if_neg h21], L⟩

end Go.Proofs.Ytbajpjnloikpdaa.T
