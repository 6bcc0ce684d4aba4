/- Texts of this claim, put together: A10, N5, A11, A3, A12. -/
import Derived.Test.YtkjefnlhhfpllaaG2
namespace Go.Proofs.Ytkjefnlhhfpllaa.T
open Go.RowKit Go.Proofs.YtkjefnlhhfpllaaW.PrintWords Go.Proofs.YtkjefnlhhfpllaaW.PrintMore
open Go.Proofs.Ytkjefnlhhfpllaa.P
set_option linter.unusedVariables false
set_option linter.unusedSimpArgs false

set_option maxRecDepth 100000 in
theorem lit22n (W : World) : (Instr.buildSlice 22 0 #[]).run Try.prog W = .ok (.slice (some ⟨W.heap.size, 0, none⟩) 0 0) (W.alloc (.cells #[] 3)) := by
 have hu22 := Try.underlying22
 go_simp
set_option maxRecDepth 100000 in
theorem lit34n (W : World) : (Instr.buildSlice 34 0 #[]).run Try.prog W = .ok (.slice (some ⟨W.heap.size, 0, none⟩) 0 0) (W.alloc (.cells #[] 86)) := by
 have hu34 := Try.underlying34
 go_simp
set_option maxRecDepth 100000 in
theorem lit26_1 (x0 x1 x2 : Int) (a b : Option Addr) (n k m l : Nat) (x5 x6 x7 x8 : Int) (W : World) : (Instr.buildSlice 26 1 #[(0, .agg #[.int .i64 x0, .int .i64 x1, .int .i64 x2, .slice a n k, .slice b m l, .int .i64 x5, .int .i64 x6, .int .i64 x7, .int .i64 x8])]).run Try.prog W = .ok (.slice (some ⟨W.heap.size, 0, none⟩) 1 1) (W.alloc (.cells #[.int .i64 x0, .int .i64 x1, .int .i64 x2, .slice a n k, .slice b m l, .int .i64 x5, .int .i64 x6, .int .i64 x7, .int .i64 x8] 36 (0, 0))) := by
 have hu3 := Try.underlying3
 have hu22 := Try.underlying22
 have hu34 := Try.underlying34
 have hu26 := Try.underlying26
 have hu36 := Try.underlying36
 go_simp
set_option maxRecDepth 100000 in
theorem build29c (t : Int) (A : Option Addr) (n c : Nat) (W : World) : (Instr.build 29 #[(0, .int .i64 t), (2, .slice A n c)]).run Try.prog W = .ok (.agg #[.int .i64 t, .slice none 0 0, .slice A n c]) W := by
 have hu3 := Try.underlying3
 have hu26 := Try.underlying26
 have hu27 := Try.underlying27
 have hu29 := Try.underlying29
 go_simp
theorem made3 {W : World} {base : Nat} : ∀ (x : Int) cs, kI.K W x cs → kI.M W base (fun _ => False) x cs := fun x cs h => h
theorem made86 {W : World} {base : Nat} : ∀ (x : S86) cs, k86.K W x cs → k86.M W base (fun _ => False) x cs := fun x cs h => by rw [k86_open h]; exact k86_mkM _ _ _ _
/-- Books in rows of our own. -/
structure BR (base : Nat) (w : World) (V : Bk) (m : Ba) : Prop where
 cs : Kd.R k36 36 w base (fun _ => True) (.slice m.A V.cs.length m.a) V.cs
 rs : Kd.R k55 55 w base (fun _ => True) (.slice m.B V.rs.length m.b) V.rs
theorem BR.bm {base : Nat} {w : World} {V : Bk} {m : Ba} (h : BR base w V m) : BM w V m := ⟨(Kd.R_reads' h.cs).2.2, (Kd.R_reads' h.rs).2.2⟩
theorem BR.below {base : Nat} {w w' : World} {V : Bk} {m : Ba} (h : BR base w V m) (l : Below w.heap.size w w') : BR base w' V m := ⟨Kd.R_below h.cs l, Kd.R_below h.rs l⟩
theorem BR.cap {base : Nat} {w : World} {V : Bk} {m : Ba} (h : BR base w V m) : V.cs.length ≤ m.a := (Kd.R_reads' h.cs).2.1
theorem BR.over {base g t : Nat} {w w' : World} {V : Bk} {m : Ba} {cs : Array Value} (h : BR base w V m) (hb : w.heap[g]? = some (.cells cs t (0, 0))) (h36 : 36 ≠ t) (h55 : 55 ≠ t) (h3 : 3 ≠ t) (h86 : 86 ≠ t) (hg : w.grownBy w' (some g)) : BR base w' V m :=
 ⟨E.R_over h.cs hb (fun q hq => by
  have : q = 36 ∨ q = 3 ∨ q = 86 := by simpa [k36, Kd.iso, Kd.pair, Kd.slice, Kd.int, Kd.scalar, k86] using hq
  rcases this with rfl | rfl | rfl <;> assumption) hg, E.R_over h.rs hb (fun q hq => by
  have : q = 55 := by simpa [k55, Kd.iso, Kd.pair, Kd.int, Kd.scalar] using hq
  rw [this]; exact h55) hg⟩
set_option maxRecDepth 100000 in
set_option maxHeartbeats 8000000 in

theorem copy_r (V : Bk) (m : Ba) (w : World) (hM : BM w V m) (hs : Sz V) :
  Calls Try.prog 12 #[bv V m] w fun e w' => ∃ m', e = .returned (bv V m') ∧ BR w.heap.size w' V m' ∧ Below w.heap.size w w' := by
 have hsc := hs.c
 have hsr := hs.r
 have hu3 := Try.underlying3
 have hu22 := Try.underlying22
 have hu26 := Try.underlying26
 have hu27 := Try.underlying27
 have hu29 := Try.underlying29
 have hu34 := Try.underlying34
 have hu36 := Try.underlying36
 have hu55 := Try.underlying55
 obtain ⟨z3, o3⟩ := info_some info3s (by decide)
 obtain ⟨z22, o22⟩ := info_some info22s (by decide)
 obtain ⟨z26, o26⟩ := info_some info26s (by decide)
 obtain ⟨z27, o27⟩ := info_some info27s (by decide)
 obtain ⟨z34, o34⟩ := info_some info34s (by decide)
 obtain ⟨z36, o36⟩ := info_some info36s (by decide)
 refine E.enter (N := 42) Try.func12 rfl Try.ntmps12 (args := [bv V m]) (by simp) ?_
 have L := Below.refl w.heap.size w
 refine E.cs (E.cl ?_)
 refine E.GL.st rfl rfl rfl (E.ST.box rfl rfl fun g1 w1 e1 b1 l1 => ?_)
 have h1_L : w.heap.size ≤ g1 := by rw [e1]; exact L.size
 replace L := below_step L l1
 refine E.GL.st rfl rfl rfl (E.ST.alloc rfl info29z fun g2 w2 e2 b2 l2 => ?_)
 have h2_L : w.heap.size ≤ g2 := by rw [e2]; exact L.size
 have n2_b1 : g1 ≠ g2 := by have := blk_lt b1; omega
 replace b1 := blk_below b1 l2
 replace L := below_step L l2
 refine E.gd (E.qc (E.cs (E.CG.heldJ 8 (fun v W => v.grownBy W none) (fun _ _ => True) (by kernel_rfl) (by kernel_rfl) (fun v => World.grownBy.refl _ _) fun v1 lD => ?_)))
 replace b1 := blk_below b1 lD
 replace b2 := blk_below b2 lD
 replace L := below_step L lD
 clear lD
 have hh : v1.grownBy v1 none := World.grownBy.refl _ _
 refine E.GJ.take1 (i := 0) rfl (by kernel_rfl) (by kernel_rfl) (by kernel_rfl) (by kernel_rfl) rfl (by kernel_rfl) (by kernel_rfl) (by intro c a d v w h; first | (cases d <;> exact h) | exact nomatch (show _ ∧ _ from h).1) rfl rfl rfl (fun w' hS => (E.Runs.fieldAddr rfl rfl hu29 rfl (by assumption) rfl)) ?_
 refine E.GJ.take1 (i := 1) rfl (by kernel_rfl) (by kernel_rfl) (by kernel_rfl) (by kernel_rfl) rfl (by kernel_rfl) (by kernel_rfl) (by intro c a d v w h; first | (cases d <;> exact h) | exact nomatch (show _ ∧ _ from h).1) rfl rfl rfl (fun w' hS => (E.Runs.load rfl rfl hu3 (by first | exact E.keeps hS (E.blkc (by assumption) rfl) (by first | exact E.nen | exact E.nes (by assumption) | exact E.nes (Ne.symm (by assumption))) | exact pw_cell_below (below_step s_L (E.belowG hS)) (by assumption)))) ?_
 refine E.GJ.take1 (i := 3) rfl (by kernel_rfl) (by kernel_rfl) (by kernel_rfl) (by kernel_rfl) rfl (by kernel_rfl) (by kernel_rfl) (by intro c a d v w h; first | (cases d <;> exact h) | exact nomatch (show _ ∧ _ from h).1) rfl rfl rfl (fun w' hS => (E.Runs.fieldAddr rfl rfl hu29 rfl (by assumption) rfl)) ?_
 refine E.GJ.take1 (i := 4) rfl (by kernel_rfl) (by kernel_rfl) (by kernel_rfl) (by kernel_rfl) rfl (by kernel_rfl) (by kernel_rfl) (by intro c a d v w h; first | (cases d <;> exact h) | exact nomatch (show _ ∧ _ from h).1) rfl rfl rfl (fun w' hS => (E.Runs.load1 rfl rfl hu27 rfl (by first | exact E.keeps hS (E.blkc (by assumption) rfl) (by first | exact E.nen | exact E.nes (by assumption) | exact E.nes (Ne.symm (by assumption))) | exact pw_cell_below (below_step s_L (E.belowG hS)) (by assumption)))) ?_
 refine E.GJ.two (i := 2) (j := 7) (by kernel_rfl) ?_ ?_
 ·refine (E.OJ.st rfl rfl rfl rfl (E.ST.litAt k55 w.heap.size (w0 := w) (ys := ([] : List S55)) (inner := []) rfl rfl E.epn lit27n (Reps.none _ _) L L.size (by simp) fun u8 w8 r8 k8 l8 n8 => ⟨(E.SJ.before (by kernel_rfl)).mpr (hh.trans (E.gbB l8)), ?_⟩))
  have hn8 : ∀ i, u8.ownBlock = some i → v1.heap.size ≤ i := fun i hi => by obtain ⟨k, e, h⟩ := n8; rw [e] at hi; injection hi with hi; subst hi; exact Nat.le_trans hh.size h
  replace hh := hh.trans (E.gbB l8)
  replace L := k8
  replace b1 := blk_below b1 l8
  replace b2 := blk_below b2 l8
  refine E.GJ.two (i := 5) (j := 7) (by kernel_rfl) ?_ ?_
  ·refine (E.OJ.st rfl rfl rfl rfl (E.ST.appendRows k55 w.heap.size (w0 := w) (s := .tmp 8) (x := .tmp 10) rfl hu27 info55 rfl (by decide) (by decide) rfl rfl r8 (Kd.C_below hM.rs L) made55 L L.size (by simp only [List.length_nil]; omega) fun u11 w11 r11 k11 g11 => ⟨(E.SJ.before (by kernel_rfl)).mpr (E.gb_row hh g11 hn8), ?_⟩))
   replace b1 := blk_grown b1 g11 (Kd.R_ne r8 b1 (by decide))
   replace b2 := blk_grown b2 g11 (Kd.R_ne r8 b2 (by decide))
   replace hh := E.gb_row hh g11 hn8
   replace L := k11
   rw [List.nil_append] at r11
   obtain ⟨A11, c11, hv11⟩ := Kd.R_slice r11
   subst hv11
   refine E.GJ.take1 (i := 6) rfl (by kernel_rfl) (by kernel_rfl) (by kernel_rfl) (by kernel_rfl) rfl (by kernel_rfl) (by kernel_rfl) (by intro c a d v w h; first | (cases d <;> exact h) | exact nomatch (show _ ∧ _ from h).1) rfl rfl rfl (fun w' hS => (E.Runs.build rfl (E.epc rfl (E.epc rfl E.epn)) (build29c _ _ _ _))) ?_
   refine E.GJ.one (i := 7) (by kernel_rfl) (E.OJ.st rfl rfl rfl rfl (E.ST.alloc rfl info29z fun g3 w3 e3 b3 l3 => ⟨(E.SJ.before (by kernel_rfl)).mpr (hh.trans (E.gbB l3)), ?_⟩))
   have h3 : w.heap.size ≤ g3 := by rw [e3]; exact L.size
   have n31 : g1 ≠ g3 := by have := blk_lt b1; omega
   have n32 : g2 ≠ g3 := by have := blk_lt b2; omega
   replace hh := hh.trans (E.gbB l3)
   replace L := below_step L l3
   replace b1 := blk_below b1 l3
   replace b2 := blk_below b2 l3
   replace r11 := Kd.R_below r11 l3
   refine E.GJ.one (i := 8) (by kernel_rfl) (E.OJ.sn rfl rfl rfl (E.ST.storeS (off := 0) (cells := [.int .i64 V.tax, .slice none 0 0, .slice A11 V.rs.length c11]) rfl rfl rfl b3 rfl info29s (books_one _ _ _ _ _ _ _) rfl fun wS c3 lS => ⟨(E.SJ.behind (by kernel_rfl)).mpr trivial, ?_⟩))
   replace b1 := blk_grown b1 lS (E.nes n31)
   replace b2 := blk_grown b2 lS (E.nes n32)
   replace r11 := E.R_over r11 b3 (by decide) lS
   replace L := E.below_own L h3 lS
   replace b3 := c3
   refine E.GJ.done (by kernel_rfl) ?_
   refine E.qc (E.cs (E.cs (E.cl (E.ga rfl rfl rfl (E.gd (E.qc (E.CG.block ?_)))))))
   have s3_b1 := b1
   have s3_b2 := b2
   have s3_b3 := b3
   have s3_L := L
   refine E.CG.loop2 (fun (i : Nat) (v3 : Value) => [(1, .pointer (some ⟨g1, 0, none⟩)), (2, .pointer (some ⟨g2, 0, none⟩)), (3, .pointer (some ⟨g3, 0, none⟩)), (4, .int .i64 i)]) (fun i v3 w' => i ≤ V.cs.length ∧ w'.heap[g1]? = some (.cells #[.int .i64 V.tax, .slice m.A V.cs.length m.a, .slice m.B V.rs.length m.b] 29 (0, 0)) ∧ w'.heap[g2]? = some (.cells #[.int .i64 0, .slice none 0 0, .slice none 0 0] 29 (0, 0)) ∧ w'.heap[g3]? = some (.cells #[.int .i64 V.tax, v3, .slice A11 V.rs.length c11] 29 (0, 0)) ∧ Kd.R k36 36 w' w.heap.size (fun _ => True) v3 (V.cs.take i) ∧ Kd.R k55 55 w' w.heap.size (fun _ => True) (.slice A11 V.rs.length c11) V.rs ∧ Below w.heap.size w w') (fun i v3 => V.cs.length - i) 0 (.slice none 0 0) (E.subc rfl (E.subc rfl (E.subc rfl (E.subc rfl E.subn)))) ⟨Nat.zero_le _, b1, b2, b3, Kd.R_nil _ _ _ _ _, r11, L⟩ ?_
   rintro i v3 w3 ⟨hi, b1, b2, b3, hD, r11, L⟩
   refine E.cs (E.cs (E.cl (E.gm rfl rfl rfl (E.gr rfl (E.Runs.fieldAddr rfl rfl hu29 rfl (by assumption) rfl) ?_))))
   refine E.gr rfl (E.Runs.load1 rfl rfl hu26 rfl (by first | assumption | exact E.blkc (by assumption) rfl | exact pw_cell_below L (by assumption))) ?_
   refine E.gr rfl (E.Runs.len rfl rfl hu26) ?_
   refine E.GL.cmp rfl rfl rfl (fun _ h => (E.Runs.lss rfl rfl rfl h)) (fun h17 => ?_) (fun h17 => ?_)
   ·obtain ⟨c, hc⟩ := get_ex (show i < V.cs.length by omega)
    obtain ⟨ad, a3, k3, a4, k4, eA, hx0, X⟩ := con_at hM.cs hc
    have hc3 := hs.s c (mem_of hc)
    have hc4 := hs.t c (mem_of hc)
    have Kr := Below.refl w3.heap.size w3
    have hL3 := L.size
    have s5b1 := b1
    have s5b2 := b2
    have s5b3 := b3
    have s5hD := hD
    have s5r := r11
    have s5L := L
    refine E.gd (E.qc (E.CG.cond_t rfl (E.CG.skip (E.qc (E.cs (E.CG.block (E.cs (E.cl (E.gr rfl (E.Runs.fieldAddr rfl rfl hu29 rfl (by assumption) rfl) ?_)))))))))
    refine E.gr rfl (E.Runs.load1 rfl rfl hu26 rfl (by first | assumption | exact E.blkc (by assumption) rfl | exact pw_cell_below L (by assumption) | exact pw_cell_below Kr (by assumption))) ?_
    refine E.gm rfl rfl rfl (E.gr rfl (E.Runs.indexAddrA (i := i) rfl rfl rfl hu26 z36 o36 (by omega) eA rfl) ?_)
    refine E.gr rfl (E.Runs.loads (cs := [.int .i64 c.f0, .int .i64 c.f1, .int .i64 c.f2, .slice a3 c.f3.length k3, .slice a4 c.f4.length k4, .int .i64 c.f5, .int .i64 c.f6, .int .i64 c.f7, .int .i64 c.f8]) rfl rfl hu36 rfl info36s (fun j v hv => pw_cell_below L (X j v hv))) ?_
    refine E.GL.st rfl rfl rfl (E.ST.alloc rfl info36z fun g5 w5 e5 b5 l5 => ?_)
    have h5_L : w.heap.size ≤ g5 := by rw [e5]; exact L.size
    have h5_Kr : w3.heap.size ≤ g5 := by rw [e5]; exact Kr.size
    have n5_b1 : g1 ≠ g5 := by have := blk_lt b1; omega
    have n5_b2 : g2 ≠ g5 := by have := blk_lt b2; omega
    have n5_b3 : g3 ≠ g5 := by have := blk_lt b3; omega
    replace b1 := blk_below b1 l5
    replace b2 := blk_below b2 l5
    replace b3 := blk_below b3 l5
    replace L := below_step L l5
    replace Kr := below_step Kr l5
    refine E.GL.store_whole rfl rfl rfl rfl rfl b5 rfl info36s (con_one _ _ _ _ _ _ _ _ _ _ _ _ _) fun wS5_6 c5 lS5_6 => ?_
    replace b1 := blk_grown b1 lS5_6 (E.nes (by first | assumption | exact Ne.symm (by assumption)))
    replace b2 := blk_grown b2 lS5_6 (E.nes (by first | assumption | exact Ne.symm (by assumption)))
    replace b3 := blk_grown b3 lS5_6 (E.nes (by first | assumption | exact Ne.symm (by assumption)))
    replace L := E.below_own L h5_L lS5_6
    replace Kr := E.below_own Kr h5_Kr lS5_6
    replace b5 := c5
    clear c5
    refine E.gd (E.qc (E.cs (E.CG.heldJ 9 (fun v W => v.grownBy W none) (fun _ _ => True) (by kernel_rfl) (by kernel_rfl) (fun v => World.grownBy.refl _ _) fun v6 lD => ?_)))
    replace b1 := blk_below b1 lD
    replace b2 := blk_below b2 lD
    replace b3 := blk_below b3 lD
    replace b5 := blk_below b5 lD
    replace L := below_step L lD
    replace Kr := below_step Kr lD
    clear lD
    have hh : v6.grownBy v6 none := World.grownBy.refl _ _
    refine E.GJ.take1 (i := 1) rfl (by kernel_rfl) (by kernel_rfl) (by kernel_rfl) (by kernel_rfl) rfl (by kernel_rfl) (by kernel_rfl) (by intro c a d v w h; first | (cases d <;> exact h) | exact nomatch (show _ ∧ _ from h).1) rfl rfl rfl (fun w' hS => (E.Runs.fieldAddr rfl rfl hu36 rfl (by assumption) rfl)) ?_
    refine E.GJ.take1 (i := 2) rfl (by kernel_rfl) (by kernel_rfl) (by kernel_rfl) (by kernel_rfl) rfl (by kernel_rfl) (by kernel_rfl) (by intro c a d v w h; first | (cases d <;> exact h) | exact nomatch (show _ ∧ _ from h).1) rfl rfl rfl (fun w' hS => (E.Runs.load1 rfl rfl hu22 rfl (by first | exact E.keeps hS (E.blkc (by assumption) rfl) (by first | exact E.nen | exact E.nes (by assumption) | exact E.nes (Ne.symm (by assumption))) | exact pw_cell_below (below_step s_L (E.belowG hS)) (by assumption) | exact pw_cell_below (below_step s_Kr (E.belowG hS)) (by assumption)))) ?_
    refine E.GJ.take1 (i := 5) rfl (by kernel_rfl) (by kernel_rfl) (by kernel_rfl) (by kernel_rfl) rfl (by kernel_rfl) (by kernel_rfl) (by intro c a d v w h; first | (cases d <;> exact h) | exact nomatch (show _ ∧ _ from h).1) rfl rfl rfl (fun w' hS => (E.Runs.fieldAddr rfl rfl hu36 rfl (by assumption) rfl)) ?_
    refine E.GJ.take1 (i := 6) rfl (by kernel_rfl) (by kernel_rfl) (by kernel_rfl) (by kernel_rfl) rfl (by kernel_rfl) (by kernel_rfl) (by intro c a d v w h; first | (cases d <;> exact h) | exact nomatch (show _ ∧ _ from h).1) rfl rfl rfl (fun w' hS => (E.Runs.load1 rfl rfl hu34 rfl (by first | exact E.keeps hS (E.blkc (by assumption) rfl) (by first | exact E.nen | exact E.nes (by assumption) | exact E.nes (Ne.symm (by assumption))) | exact pw_cell_below (below_step s_L (E.belowG hS)) (by assumption) | exact pw_cell_below (below_step s_Kr (E.belowG hS)) (by assumption)))) ?_
    refine E.GJ.two (i := 0) (j := 4) (by kernel_rfl) ?_ ?_
    ·refine (E.OJ.st rfl rfl rfl rfl (E.ST.litAt kI w3.heap.size (w0 := w3) (ys := ([] : List Int)) (inner := []) rfl rfl E.epn lit22n (Reps.none _ _) Kr Kr.size (by simp) fun u25 w25 r25 k25 l25 n25 => ⟨(E.SJ.before (by kernel_rfl)).mpr (hh.trans (E.gbB l25)), ?_⟩))
     have hn25 : ∀ i, u25.ownBlock = some i → v6.heap.size ≤ i := fun i hi => by obtain ⟨k, e, h⟩ := n25; rw [e] at hi; injection hi with hi; subst hi; exact Nat.le_trans hh.size h
     replace hh := hh.trans (E.gbB l25)
     replace Kr := k25
     replace b5 := blk_below b5 l25
     refine E.GJ.two (i := 3) (j := 4) (by kernel_rfl) ?_ ?_
     ·refine (E.OJ.st rfl rfl rfl rfl (E.ST.appendRows kI w3.heap.size (w0 := w3) (s := .tmp 25) (x := .tmp 27) rfl hu22 info3 rfl (by decide) (by decide) rfl rfl r25 (Kd.C_below hx0.s (below_step s5L Kr)) made3 Kr Kr.size (by simp only [List.length_nil]; omega) fun u28 w28 R28 k28 g28 => ⟨(E.SJ.before (by kernel_rfl)).mpr (E.gb_row hh g28 hn25), ?_⟩))
      replace b5 := blk_grown b5 g28 (Kd.R_ne r25 b5 (by decide))
      replace hh := E.gb_row hh g28 hn25
      replace Kr := k28
      rw [List.nil_append] at R28
      obtain ⟨A28, c28, hv28⟩ := Kd.R_slice R28
      subst hv28
      refine E.GJ.take1 (i := 8) rfl (by kernel_rfl) (by kernel_rfl) (by kernel_rfl) (by kernel_rfl) rfl (by kernel_rfl) (by kernel_rfl) (by intro c a d v w h; first | (cases d <;> exact h) | exact nomatch (show _ ∧ _ from h).1) rfl rfl rfl (fun w' hS => (E.Runs.fieldAddr rfl rfl hu36 rfl (by assumption) rfl)) ?_
      refine E.GJ.one (i := 4) (by kernel_rfl) (E.OJ.st rfl rfl rfl rfl (E.ST.litAt k86 w3.heap.size (w0 := w3) (ys := ([] : List S86)) (inner := []) rfl rfl E.epn lit34n (Reps.none _ _) Kr Kr.size (by simp) fun u29 w29 r29 k29 l29 n29 => ⟨(E.SJ.before (by kernel_rfl)).mpr (hh.trans (E.gbB l29)), ?_⟩))
      have hn29 : ∀ i, u29.ownBlock = some i → v6.heap.size ≤ i := fun i hi => by obtain ⟨k, e, h⟩ := n29; rw [e] at hi; injection hi with hi; subst hi; exact Nat.le_trans hh.size h
      replace hh := hh.trans (E.gbB l29)
      replace Kr := k29
      replace b5 := blk_below b5 l29
      replace R28 := Kd.R_below R28 l29
      refine E.GJ.one (i := 7) (by kernel_rfl) (E.OJ.st rfl rfl rfl rfl (E.ST.appendRows k86 w3.heap.size (w0 := w3) (s := .tmp 29) (x := .tmp 31) rfl hu34 info86 rfl (by decide) (by decide) rfl rfl r29 (Kd.C_below hx0.t (below_step s5L Kr)) made86 Kr Kr.size (by simp only [List.length_nil]; omega) fun u32 w32 R32 k32 g32 => ⟨(E.SJ.before (by kernel_rfl)).mpr (E.gb_row hh g32 hn29), ?_⟩))
      replace b5 := blk_grown b5 g32 (Kd.R_ne r29 b5 (by decide))
      replace hh := E.gb_row hh g32 hn29
      replace Kr := k32
      rw [List.nil_append] at R32
      obtain ⟨A32, c32, hv32⟩ := Kd.R_slice R32
      subst hv32
      replace R28 := E.R_over' R28 r29 (by decide) g32
      refine E.GJ.one (i := 9) (by kernel_rfl) (E.OJ.sn rfl rfl rfl (E.ST.storeSl (cs := [.int .i64 c.f0, .int .i64 c.f1, .int .i64 c.f2, .slice a3 c.f3.length k3, .slice a4 c.f4.length k4, .int .i64 c.f5, .int .i64 c.f6, .int .i64 c.f7, .int .i64 c.f8]) (cs' := [.int .i64 c.f0, .int .i64 c.f1, .int .i64 c.f2, .slice A28 c.f3.length c28, .slice a4 c.f4.length k4, .int .i64 c.f5, .int .i64 c.f6, .int .i64 c.f7, .int .i64 c.f8]) rfl z22 o22 rfl rfl b5 rfl rfl fun wS9 c9 lS9 => ⟨(E.SJ.behind (by kernel_rfl)).mpr trivial, ?_⟩))
      replace R28 := E.R_over R28 b5 (by decide) lS9
      replace R32 := E.R_over R32 b5 (by decide) lS9
      replace Kr := E.below_own Kr h5_Kr lS9
      replace b5 := c9
      refine E.GJ.one (i := 10) (by kernel_rfl) (E.OJ.st rfl rfl rfl rfl (E.ST.reads (E.Runs.fieldAddr rfl rfl hu36 rfl (by assumption) rfl) ⟨(E.SJ.behind (by kernel_rfl)).mpr trivial, ?_⟩))
      refine E.GJ.one (i := 11) (by kernel_rfl) (E.OJ.sn rfl rfl rfl (E.ST.storeSl (cs := [.int .i64 c.f0, .int .i64 c.f1, .int .i64 c.f2, .slice A28 c.f3.length c28, .slice a4 c.f4.length k4, .int .i64 c.f5, .int .i64 c.f6, .int .i64 c.f7, .int .i64 c.f8]) (cs' := [.int .i64 c.f0, .int .i64 c.f1, .int .i64 c.f2, .slice A28 c.f3.length c28, .slice A32 c.f4.length c32, .int .i64 c.f5, .int .i64 c.f6, .int .i64 c.f7, .int .i64 c.f8]) rfl z34 o34 rfl rfl b5 rfl rfl fun wS11 c11_ lS11 => ⟨(E.SJ.behind (by kernel_rfl)).mpr trivial, ?_⟩))
      replace R28 := E.R_over R28 b5 (by decide) lS11
      replace R32 := E.R_over R32 b5 (by decide) lS11
      replace Kr := E.below_own Kr h5_Kr lS11
      replace b5 := c11_
      replace b1 := blk_below s5b1 Kr
      replace b2 := blk_below s5b2 Kr
      replace b3 := blk_below s5b3 Kr
      replace hD := Kd.R_below s5hD Kr
      replace r11 := Kd.R_below s5r Kr
      replace L := below_step s5L Kr
      refine E.GJ.done (by kernel_rfl) ?_
      refine E.qc (E.cl (E.gr rfl (E.Runs.fieldAddr rfl rfl hu29 rfl (by assumption) rfl) ?_))
      refine E.gr rfl (E.Runs.load1 rfl rfl hu26 rfl (by first | assumption | exact E.blkc (by assumption) rfl | exact pw_cell_below L (by assumption) | exact pw_cell_below Kr (by assumption))) ?_
      refine E.gr rfl (E.Runs.loads (cs := [.int .i64 c.f0, .int .i64 c.f1, .int .i64 c.f2, .slice A28 c.f3.length c28, .slice A32 c.f4.length c32, .int .i64 c.f5, .int .i64 c.f6, .int .i64 c.f7, .int .i64 c.f8]) rfl rfl hu36 rfl info36s (blk_cells b5)) ?_
      refine E.GL.st rfl rfl rfl (E.ST.lit rfl (E.epc rfl E.epn) (lit26_1 _ _ _ _ _ _ _ _ _ _ _ _ _) ?_)
      refine E.GL.st rfl rfl rfl (E.ST.appendR k36 w.heap.size (w0 := w) (s := .tmp 36) (x := .tmp 38) rfl hu26 info36 rfl (by decide) (by decide) c rfl rfl (k36_mkM _ _ _ c (E.apart_R (Kd.R_lower R28 hL3) hD (by decide)) (E.apart_R (Kd.R_lower R32 hL3) hD (by decide))) hD L L.size (by rw [List.length_take]; omega) fun u39 w39 r39 k39 gr39 at39 => ?_)
      replace b1 := blk_grown b1 gr39 (Kd.R_ne hD b1 (by decide))
      replace b2 := blk_grown b2 gr39 (Kd.R_ne hD b2 (by decide))
      replace b3 := blk_grown b3 gr39 (Kd.R_ne hD b3 (by decide))
      replace r11 := E.R_over' r11 hD (by decide) gr39
      replace L := k39
      replace hD := r39
      rw [E.take_snoc hc] at hD
      obtain ⟨D', d', hv39⟩ := Kd.R_slice hD
      rw [List.length_take, Nat.min_eq_left (show i + 1 ≤ V.cs.length by omega)] at hv39
      subst hv39
      refine E.gr rfl (E.Runs.fieldAddr rfl rfl hu29 rfl (by assumption) rfl) ?_
      refine E.GL.sn rfl rfl (E.ST.storeSl (cs := [.int .i64 V.tax, v3, .slice A11 V.rs.length c11]) (cs' := [.int .i64 V.tax, .slice D' (i + 1) d', .slice A11 V.rs.length c11]) rfl z26 o26 rfl rfl b3 rfl rfl fun wS7 c3 lS7 => ?_)
      replace b1 := blk_grown b1 lS7 (E.nes n31)
      replace b2 := blk_grown b2 lS7 (E.nes n32)
      replace hD := E.R_over hD b3 (by decide) lS7
      replace r11 := E.R_over r11 b3 (by decide) lS7
      replace L := E.below_own L h3 lS7
      replace b3 := c3
      refine E.gd (E.QG.block_normal (E.qc (E.cl (E.gm rfl rfl rfl (E.gr rfl (E.Runs.add rfl rfl rfl (IntWalk.i64_in _ (by omega))) ?_)))))
      refine E.ga rfl rfl rfl (E.gd ?_)
      exact E.QG.round2 (d := .slice none 0 0) (i + 1) _ (E.subc rfl (E.subc rfl (E.subc rfl (E.subc rfl E.subn)))) ⟨by omega, b1, b2, b3, hD, r11, L⟩ (by omega)
     ·refine (E.OJ.st rfl rfl rfl rfl (E.ST.litAt k86 w3.heap.size (w0 := w3) (ys := ([] : List S86)) (inner := []) rfl rfl E.epn lit34n (Reps.none _ _) Kr Kr.size (by simp) fun u29 w29 r29 k29 l29 n29 => ⟨(E.SJ.before (by kernel_rfl)).mpr (hh.trans (E.gbB l29)), ?_⟩))
      have hn29 : ∀ i, u29.ownBlock = some i → v6.heap.size ≤ i := fun i hi => by obtain ⟨k, e, h⟩ := n29; rw [e] at hi; injection hi with hi; subst hi; exact Nat.le_trans hh.size h
      replace hh := hh.trans (E.gbB l29)
      replace Kr := k29
      replace b5 := blk_below b5 l29
      replace r25 := Kd.R_below r25 l29
      refine E.GJ.one (i := 3) (by kernel_rfl) (E.OJ.st rfl rfl rfl rfl (E.ST.appendRows kI w3.heap.size (w0 := w3) (s := .tmp 25) (x := .tmp 27) rfl hu22 info3 rfl (by decide) (by decide) rfl rfl r25 (Kd.C_below hx0.s (below_step s5L Kr)) made3 Kr Kr.size (by simp only [List.length_nil]; omega) fun u28 w28 R28 k28 g28 => ⟨(E.SJ.before (by kernel_rfl)).mpr (E.gb_row hh g28 hn25), ?_⟩))
      replace b5 := blk_grown b5 g28 (Kd.R_ne r25 b5 (by decide))
      replace hh := E.gb_row hh g28 hn25
      replace Kr := k28
      rw [List.nil_append] at R28
      obtain ⟨A28, c28, hv28⟩ := Kd.R_slice R28
      subst hv28
      replace r29 := E.R_over' r29 r25 (by decide) g28
      refine E.GJ.take1 (i := 8) rfl (by kernel_rfl) (by kernel_rfl) (by kernel_rfl) (by kernel_rfl) rfl (by kernel_rfl) (by kernel_rfl) (by intro c a d v w h; first | (cases d <;> exact h) | exact nomatch (show _ ∧ _ from h).1) rfl rfl rfl (fun w' hS => (E.Runs.fieldAddr rfl rfl hu36 rfl (by assumption) rfl)) ?_
      refine E.GJ.one (i := 7) (by kernel_rfl) (E.OJ.st rfl rfl rfl rfl (E.ST.appendRows k86 w3.heap.size (w0 := w3) (s := .tmp 29) (x := .tmp 31) rfl hu34 info86 rfl (by decide) (by decide) rfl rfl r29 (Kd.C_below hx0.t (below_step s5L Kr)) made86 Kr Kr.size (by simp only [List.length_nil]; omega) fun u32 w32 R32 k32 g32 => ⟨(E.SJ.before (by kernel_rfl)).mpr (E.gb_row hh g32 hn29), ?_⟩))
      replace b5 := blk_grown b5 g32 (Kd.R_ne r29 b5 (by decide))
      replace hh := E.gb_row hh g32 hn29
      replace Kr := k32
      rw [List.nil_append] at R32
      obtain ⟨A32, c32, hv32⟩ := Kd.R_slice R32
      subst hv32
      replace R28 := E.R_over' R28 r29 (by decide) g32
      refine E.GJ.one (i := 9) (by kernel_rfl) (E.OJ.sn rfl rfl rfl (E.ST.storeSl (cs := [.int .i64 c.f0, .int .i64 c.f1, .int .i64 c.f2, .slice a3 c.f3.length k3, .slice a4 c.f4.length k4, .int .i64 c.f5, .int .i64 c.f6, .int .i64 c.f7, .int .i64 c.f8]) (cs' := [.int .i64 c.f0, .int .i64 c.f1, .int .i64 c.f2, .slice A28 c.f3.length c28, .slice a4 c.f4.length k4, .int .i64 c.f5, .int .i64 c.f6, .int .i64 c.f7, .int .i64 c.f8]) rfl z22 o22 rfl rfl b5 rfl rfl fun wS9 c9 lS9 => ⟨(E.SJ.behind (by kernel_rfl)).mpr trivial, ?_⟩))
      replace R28 := E.R_over R28 b5 (by decide) lS9
      replace R32 := E.R_over R32 b5 (by decide) lS9
      replace Kr := E.below_own Kr h5_Kr lS9
      replace b5 := c9
      refine E.GJ.one (i := 10) (by kernel_rfl) (E.OJ.st rfl rfl rfl rfl (E.ST.reads (E.Runs.fieldAddr rfl rfl hu36 rfl (by assumption) rfl) ⟨(E.SJ.behind (by kernel_rfl)).mpr trivial, ?_⟩))
      refine E.GJ.one (i := 11) (by kernel_rfl) (E.OJ.sn rfl rfl rfl (E.ST.storeSl (cs := [.int .i64 c.f0, .int .i64 c.f1, .int .i64 c.f2, .slice A28 c.f3.length c28, .slice a4 c.f4.length k4, .int .i64 c.f5, .int .i64 c.f6, .int .i64 c.f7, .int .i64 c.f8]) (cs' := [.int .i64 c.f0, .int .i64 c.f1, .int .i64 c.f2, .slice A28 c.f3.length c28, .slice A32 c.f4.length c32, .int .i64 c.f5, .int .i64 c.f6, .int .i64 c.f7, .int .i64 c.f8]) rfl z34 o34 rfl rfl b5 rfl rfl fun wS11 c11_ lS11 => ⟨(E.SJ.behind (by kernel_rfl)).mpr trivial, ?_⟩))
      replace R28 := E.R_over R28 b5 (by decide) lS11
      replace R32 := E.R_over R32 b5 (by decide) lS11
      replace Kr := E.below_own Kr h5_Kr lS11
      replace b5 := c11_
      replace b1 := blk_below s5b1 Kr
      replace b2 := blk_below s5b2 Kr
      replace b3 := blk_below s5b3 Kr
      replace hD := Kd.R_below s5hD Kr
      replace r11 := Kd.R_below s5r Kr
      replace L := below_step s5L Kr
      refine E.GJ.done (by kernel_rfl) ?_
      refine E.qc (E.cl (E.gr rfl (E.Runs.fieldAddr rfl rfl hu29 rfl (by assumption) rfl) ?_))
      refine E.gr rfl (E.Runs.load1 rfl rfl hu26 rfl (by first | assumption | exact E.blkc (by assumption) rfl | exact pw_cell_below L (by assumption) | exact pw_cell_below Kr (by assumption))) ?_
      refine E.gr rfl (E.Runs.loads (cs := [.int .i64 c.f0, .int .i64 c.f1, .int .i64 c.f2, .slice A28 c.f3.length c28, .slice A32 c.f4.length c32, .int .i64 c.f5, .int .i64 c.f6, .int .i64 c.f7, .int .i64 c.f8]) rfl rfl hu36 rfl info36s (blk_cells b5)) ?_
      refine E.GL.st rfl rfl rfl (E.ST.lit rfl (E.epc rfl E.epn) (lit26_1 _ _ _ _ _ _ _ _ _ _ _ _ _) ?_)
      refine E.GL.st rfl rfl rfl (E.ST.appendR k36 w.heap.size (w0 := w) (s := .tmp 36) (x := .tmp 38) rfl hu26 info36 rfl (by decide) (by decide) c rfl rfl (k36_mkM _ _ _ c (E.apart_R (Kd.R_lower R28 hL3) hD (by decide)) (E.apart_R (Kd.R_lower R32 hL3) hD (by decide))) hD L L.size (by rw [List.length_take]; omega) fun u39 w39 r39 k39 gr39 at39 => ?_)
      replace b1 := blk_grown b1 gr39 (Kd.R_ne hD b1 (by decide))
      replace b2 := blk_grown b2 gr39 (Kd.R_ne hD b2 (by decide))
      replace b3 := blk_grown b3 gr39 (Kd.R_ne hD b3 (by decide))
      replace r11 := E.R_over' r11 hD (by decide) gr39
      replace L := k39
      replace hD := r39
      rw [E.take_snoc hc] at hD
      obtain ⟨D', d', hv39⟩ := Kd.R_slice hD
      rw [List.length_take, Nat.min_eq_left (show i + 1 ≤ V.cs.length by omega)] at hv39
      subst hv39
      refine E.gr rfl (E.Runs.fieldAddr rfl rfl hu29 rfl (by assumption) rfl) ?_
      refine E.GL.sn rfl rfl (E.ST.storeSl (cs := [.int .i64 V.tax, v3, .slice A11 V.rs.length c11]) (cs' := [.int .i64 V.tax, .slice D' (i + 1) d', .slice A11 V.rs.length c11]) rfl z26 o26 rfl rfl b3 rfl rfl fun wS7 c3 lS7 => ?_)
      replace b1 := blk_grown b1 lS7 (E.nes n31)
      replace b2 := blk_grown b2 lS7 (E.nes n32)
      replace hD := E.R_over hD b3 (by decide) lS7
      replace r11 := E.R_over r11 b3 (by decide) lS7
      replace L := E.below_own L h3 lS7
      replace b3 := c3
      refine E.gd (E.QG.block_normal (E.qc (E.cl (E.gm rfl rfl rfl (E.gr rfl (E.Runs.add rfl rfl rfl (IntWalk.i64_in _ (by omega))) ?_)))))
      refine E.ga rfl rfl rfl (E.gd ?_)
      exact E.QG.round2 (d := .slice none 0 0) (i + 1) _ (E.subc rfl (E.subc rfl (E.subc rfl (E.subc rfl E.subn)))) ⟨by omega, b1, b2, b3, hD, r11, L⟩ (by omega)
    ·refine (E.OJ.st rfl rfl rfl rfl (E.ST.litAt k86 w3.heap.size (w0 := w3) (ys := ([] : List S86)) (inner := []) rfl rfl E.epn lit34n (Reps.none _ _) Kr Kr.size (by simp) fun u29 w29 r29 k29 l29 n29 => ⟨(E.SJ.before (by kernel_rfl)).mpr (hh.trans (E.gbB l29)), ?_⟩))
     have hn29 : ∀ i, u29.ownBlock = some i → v6.heap.size ≤ i := fun i hi => by obtain ⟨k, e, h⟩ := n29; rw [e] at hi; injection hi with hi; subst hi; exact Nat.le_trans hh.size h
     replace hh := hh.trans (E.gbB l29)
     replace Kr := k29
     replace b5 := blk_below b5 l29
     refine E.GJ.one (i := 0) (by kernel_rfl) (E.OJ.st rfl rfl rfl rfl (E.ST.litAt kI w3.heap.size (w0 := w3) (ys := ([] : List Int)) (inner := []) rfl rfl E.epn lit22n (Reps.none _ _) Kr Kr.size (by simp) fun u25 w25 r25 k25 l25 n25 => ⟨(E.SJ.before (by kernel_rfl)).mpr (hh.trans (E.gbB l25)), ?_⟩))
     have hn25 : ∀ i, u25.ownBlock = some i → v6.heap.size ≤ i := fun i hi => by obtain ⟨k, e, h⟩ := n25; rw [e] at hi; injection hi with hi; subst hi; exact Nat.le_trans hh.size h
     replace hh := hh.trans (E.gbB l25)
     replace Kr := k25
     replace b5 := blk_below b5 l25
     replace r29 := Kd.R_below r29 l25
     refine E.GJ.one (i := 3) (by kernel_rfl) (E.OJ.st rfl rfl rfl rfl (E.ST.appendRows kI w3.heap.size (w0 := w3) (s := .tmp 25) (x := .tmp 27) rfl hu22 info3 rfl (by decide) (by decide) rfl rfl r25 (Kd.C_below hx0.s (below_step s5L Kr)) made3 Kr Kr.size (by simp only [List.length_nil]; omega) fun u28 w28 R28 k28 g28 => ⟨(E.SJ.before (by kernel_rfl)).mpr (E.gb_row hh g28 hn25), ?_⟩))
     replace b5 := blk_grown b5 g28 (Kd.R_ne r25 b5 (by decide))
     replace hh := E.gb_row hh g28 hn25
     replace Kr := k28
     rw [List.nil_append] at R28
     obtain ⟨A28, c28, hv28⟩ := Kd.R_slice R28
     subst hv28
     replace r29 := E.R_over' r29 r25 (by decide) g28
     refine E.GJ.take1 (i := 8) rfl (by kernel_rfl) (by kernel_rfl) (by kernel_rfl) (by kernel_rfl) rfl (by kernel_rfl) (by kernel_rfl) (by intro c a d v w h; first | (cases d <;> exact h) | exact nomatch (show _ ∧ _ from h).1) rfl rfl rfl (fun w' hS => (E.Runs.fieldAddr rfl rfl hu36 rfl (by assumption) rfl)) ?_
     refine E.GJ.one (i := 7) (by kernel_rfl) (E.OJ.st rfl rfl rfl rfl (E.ST.appendRows k86 w3.heap.size (w0 := w3) (s := .tmp 29) (x := .tmp 31) rfl hu34 info86 rfl (by decide) (by decide) rfl rfl r29 (Kd.C_below hx0.t (below_step s5L Kr)) made86 Kr Kr.size (by simp only [List.length_nil]; omega) fun u32 w32 R32 k32 g32 => ⟨(E.SJ.before (by kernel_rfl)).mpr (E.gb_row hh g32 hn29), ?_⟩))
     replace b5 := blk_grown b5 g32 (Kd.R_ne r29 b5 (by decide))
     replace hh := E.gb_row hh g32 hn29
     replace Kr := k32
     rw [List.nil_append] at R32
     obtain ⟨A32, c32, hv32⟩ := Kd.R_slice R32
     subst hv32
     replace R28 := E.R_over' R28 r29 (by decide) g32
     refine E.GJ.one (i := 9) (by kernel_rfl) (E.OJ.sn rfl rfl rfl (E.ST.storeSl (cs := [.int .i64 c.f0, .int .i64 c.f1, .int .i64 c.f2, .slice a3 c.f3.length k3, .slice a4 c.f4.length k4, .int .i64 c.f5, .int .i64 c.f6, .int .i64 c.f7, .int .i64 c.f8]) (cs' := [.int .i64 c.f0, .int .i64 c.f1, .int .i64 c.f2, .slice A28 c.f3.length c28, .slice a4 c.f4.length k4, .int .i64 c.f5, .int .i64 c.f6, .int .i64 c.f7, .int .i64 c.f8]) rfl z22 o22 rfl rfl b5 rfl rfl fun wS9 c9 lS9 => ⟨(E.SJ.behind (by kernel_rfl)).mpr trivial, ?_⟩))
     replace R28 := E.R_over R28 b5 (by decide) lS9
     replace R32 := E.R_over R32 b5 (by decide) lS9
     replace Kr := E.below_own Kr h5_Kr lS9
     replace b5 := c9
     refine E.GJ.one (i := 10) (by kernel_rfl) (E.OJ.st rfl rfl rfl rfl (E.ST.reads (E.Runs.fieldAddr rfl rfl hu36 rfl (by assumption) rfl) ⟨(E.SJ.behind (by kernel_rfl)).mpr trivial, ?_⟩))
     refine E.GJ.one (i := 11) (by kernel_rfl) (E.OJ.sn rfl rfl rfl (E.ST.storeSl (cs := [.int .i64 c.f0, .int .i64 c.f1, .int .i64 c.f2, .slice A28 c.f3.length c28, .slice a4 c.f4.length k4, .int .i64 c.f5, .int .i64 c.f6, .int .i64 c.f7, .int .i64 c.f8]) (cs' := [.int .i64 c.f0, .int .i64 c.f1, .int .i64 c.f2, .slice A28 c.f3.length c28, .slice A32 c.f4.length c32, .int .i64 c.f5, .int .i64 c.f6, .int .i64 c.f7, .int .i64 c.f8]) rfl z34 o34 rfl rfl b5 rfl rfl fun wS11 c11_ lS11 => ⟨(E.SJ.behind (by kernel_rfl)).mpr trivial, ?_⟩))
     replace R28 := E.R_over R28 b5 (by decide) lS11
     replace R32 := E.R_over R32 b5 (by decide) lS11
     replace Kr := E.below_own Kr h5_Kr lS11
     replace b5 := c11_
     replace b1 := blk_below s5b1 Kr
     replace b2 := blk_below s5b2 Kr
     replace b3 := blk_below s5b3 Kr
     replace hD := Kd.R_below s5hD Kr
     replace r11 := Kd.R_below s5r Kr
     replace L := below_step s5L Kr
     refine E.GJ.done (by kernel_rfl) ?_
     refine E.qc (E.cl (E.gr rfl (E.Runs.fieldAddr rfl rfl hu29 rfl (by assumption) rfl) ?_))
     refine E.gr rfl (E.Runs.load1 rfl rfl hu26 rfl (by first | assumption | exact E.blkc (by assumption) rfl | exact pw_cell_below L (by assumption) | exact pw_cell_below Kr (by assumption))) ?_
     refine E.gr rfl (E.Runs.loads (cs := [.int .i64 c.f0, .int .i64 c.f1, .int .i64 c.f2, .slice A28 c.f3.length c28, .slice A32 c.f4.length c32, .int .i64 c.f5, .int .i64 c.f6, .int .i64 c.f7, .int .i64 c.f8]) rfl rfl hu36 rfl info36s (blk_cells b5)) ?_
     refine E.GL.st rfl rfl rfl (E.ST.lit rfl (E.epc rfl E.epn) (lit26_1 _ _ _ _ _ _ _ _ _ _ _ _ _) ?_)
     refine E.GL.st rfl rfl rfl (E.ST.appendR k36 w.heap.size (w0 := w) (s := .tmp 36) (x := .tmp 38) rfl hu26 info36 rfl (by decide) (by decide) c rfl rfl (k36_mkM _ _ _ c (E.apart_R (Kd.R_lower R28 hL3) hD (by decide)) (E.apart_R (Kd.R_lower R32 hL3) hD (by decide))) hD L L.size (by rw [List.length_take]; omega) fun u39 w39 r39 k39 gr39 at39 => ?_)
     replace b1 := blk_grown b1 gr39 (Kd.R_ne hD b1 (by decide))
     replace b2 := blk_grown b2 gr39 (Kd.R_ne hD b2 (by decide))
     replace b3 := blk_grown b3 gr39 (Kd.R_ne hD b3 (by decide))
     replace r11 := E.R_over' r11 hD (by decide) gr39
     replace L := k39
     replace hD := r39
     rw [E.take_snoc hc] at hD
     obtain ⟨D', d', hv39⟩ := Kd.R_slice hD
     rw [List.length_take, Nat.min_eq_left (show i + 1 ≤ V.cs.length by omega)] at hv39
     subst hv39
     refine E.gr rfl (E.Runs.fieldAddr rfl rfl hu29 rfl (by assumption) rfl) ?_
     refine E.GL.sn rfl rfl (E.ST.storeSl (cs := [.int .i64 V.tax, v3, .slice A11 V.rs.length c11]) (cs' := [.int .i64 V.tax, .slice D' (i + 1) d', .slice A11 V.rs.length c11]) rfl z26 o26 rfl rfl b3 rfl rfl fun wS7 c3 lS7 => ?_)
     replace b1 := blk_grown b1 lS7 (E.nes n31)
     replace b2 := blk_grown b2 lS7 (E.nes n32)
     replace hD := E.R_over hD b3 (by decide) lS7
     replace r11 := E.R_over r11 b3 (by decide) lS7
     replace L := E.below_own L h3 lS7
     replace b3 := c3
     refine E.gd (E.QG.block_normal (E.qc (E.cl (E.gm rfl rfl rfl (E.gr rfl (E.Runs.add rfl rfl rfl (IntWalk.i64_in _ (by omega))) ?_)))))
     refine E.ga rfl rfl rfl (E.gd ?_)
     exact E.QG.round2 (d := .slice none 0 0) (i + 1) _ (E.subc rfl (E.subc rfl (E.subc rfl (E.subc rfl E.subn)))) ⟨by omega, b1, b2, b3, hD, r11, L⟩ (by omega)
   ·obtain rfl : i = V.cs.length := by omega
    rw [List.take_length] at hD
    obtain ⟨D, d, rfl⟩ := Kd.R_slice hD
    refine E.gd (E.qc (E.CG.cond_f rfl (E.CG.exit (E.QG.pass_exit (E.QG.pass_exit (E.QG.block_here (E.qc (E.cs ?_))))))))
    have s8b2 := b2
    refine E.cl (E.gr rfl (E.Runs.loads (cs := [.int .i64 V.tax, .slice D V.cs.length d, .slice A11 V.rs.length c11]) rfl rfl hu29 rfl info29s (blk_cells b3)) ?_)
    refine E.GL.store_whole rfl rfl rfl rfl rfl b2 rfl info29s (books_one _ _ _ _ _ _ _) fun wS8_1 c2 lS8_1 => ?_
    replace b1 := blk_grown b1 lS8_1 (E.nes (by first | assumption | exact Ne.symm (by assumption)))
    replace b3 := blk_grown b3 lS8_1 (E.nes (by first | assumption | exact Ne.symm (by assumption)))
    replace L := E.below_own L h2_L lS8_1
    replace b2 := c2
    clear c2
    refine E.gd (E.qc (E.CG.ret ?_))
    exact E.QG.result_c rfl rfl b2 hu29 rfl info29s ⟨⟨D, d, A11, c11⟩, rfl, ⟨E.R_over hD s8b2 (by decide) lS8_1, E.R_over r11 s8b2 (by decide) lS8_1⟩, L⟩
  ·refine (E.OJ.st rfl rfl rfl rfl (E.ST.alloc rfl info29z fun g3 w3 e3 b3 l3 => ⟨(E.SJ.before (by kernel_rfl)).mpr (hh.trans (E.gbB l3)), ?_⟩))
   have h3 : w.heap.size ≤ g3 := by rw [e3]; exact L.size
   have n31 : g1 ≠ g3 := by have := blk_lt b1; omega
   have n32 : g2 ≠ g3 := by have := blk_lt b2; omega
   replace hh := hh.trans (E.gbB l3)
   replace L := below_step L l3
   replace b1 := blk_below b1 l3
   replace b2 := blk_below b2 l3
   replace r8 := Kd.R_below r8 l3
   refine E.GJ.one (i := 5) (by kernel_rfl) (E.OJ.st rfl rfl rfl rfl (E.ST.appendRows k55 w.heap.size (w0 := w) (s := .tmp 8) (x := .tmp 10) rfl hu27 info55 rfl (by decide) (by decide) rfl rfl r8 (Kd.C_below hM.rs L) made55 L L.size (by simp only [List.length_nil]; omega) fun u11 w11 r11 k11 g11 => ⟨(E.SJ.before (by kernel_rfl)).mpr (E.gb_row hh g11 hn8), ?_⟩))
   replace b1 := blk_grown b1 g11 (Kd.R_ne r8 b1 (by decide))
   replace b2 := blk_grown b2 g11 (Kd.R_ne r8 b2 (by decide))
   replace b3 := blk_grown b3 g11 (Kd.R_ne r8 b3 (by decide))
   replace hh := E.gb_row hh g11 hn8
   replace L := k11
   rw [List.nil_append] at r11
   obtain ⟨A11, c11, hv11⟩ := Kd.R_slice r11
   subst hv11
   refine E.GJ.take1 (i := 6) rfl (by kernel_rfl) (by kernel_rfl) (by kernel_rfl) (by kernel_rfl) rfl (by kernel_rfl) (by kernel_rfl) (by intro c a d v w h; first | (cases d <;> exact h) | exact nomatch (show _ ∧ _ from h).1) rfl rfl rfl (fun w' hS => (E.Runs.build rfl (E.epc rfl (E.epc rfl E.epn)) (build29c _ _ _ _))) ?_
   refine E.GJ.one (i := 8) (by kernel_rfl) (E.OJ.sn rfl rfl rfl (E.ST.storeS (off := 0) (cells := [.int .i64 V.tax, .slice none 0 0, .slice A11 V.rs.length c11]) rfl rfl rfl b3 rfl info29s (books_one _ _ _ _ _ _ _) rfl fun wS c3 lS => ⟨(E.SJ.behind (by kernel_rfl)).mpr trivial, ?_⟩))
   replace b1 := blk_grown b1 lS (E.nes n31)
   replace b2 := blk_grown b2 lS (E.nes n32)
   replace r11 := E.R_over r11 b3 (by decide) lS
   replace L := E.below_own L h3 lS
   replace b3 := c3
   refine E.GJ.done (by kernel_rfl) ?_
   refine E.qc (E.cs (E.cs (E.cl (E.ga rfl rfl rfl (E.gd (E.qc (E.CG.block ?_)))))))
   have s3_b1 := b1
   have s3_b2 := b2
   have s3_b3 := b3
   have s3_L := L
   refine E.CG.loop2 (fun (i : Nat) (v3 : Value) => [(1, .pointer (some ⟨g1, 0, none⟩)), (2, .pointer (some ⟨g2, 0, none⟩)), (3, .pointer (some ⟨g3, 0, none⟩)), (4, .int .i64 i)]) (fun i v3 w' => i ≤ V.cs.length ∧ w'.heap[g1]? = some (.cells #[.int .i64 V.tax, .slice m.A V.cs.length m.a, .slice m.B V.rs.length m.b] 29 (0, 0)) ∧ w'.heap[g2]? = some (.cells #[.int .i64 0, .slice none 0 0, .slice none 0 0] 29 (0, 0)) ∧ w'.heap[g3]? = some (.cells #[.int .i64 V.tax, v3, .slice A11 V.rs.length c11] 29 (0, 0)) ∧ Kd.R k36 36 w' w.heap.size (fun _ => True) v3 (V.cs.take i) ∧ Kd.R k55 55 w' w.heap.size (fun _ => True) (.slice A11 V.rs.length c11) V.rs ∧ Below w.heap.size w w') (fun i v3 => V.cs.length - i) 0 (.slice none 0 0) (E.subc rfl (E.subc rfl (E.subc rfl (E.subc rfl E.subn)))) ⟨Nat.zero_le _, b1, b2, b3, Kd.R_nil _ _ _ _ _, r11, L⟩ ?_
   rintro i v3 w3 ⟨hi, b1, b2, b3, hD, r11, L⟩
   refine E.cs (E.cs (E.cl (E.gm rfl rfl rfl (E.gr rfl (E.Runs.fieldAddr rfl rfl hu29 rfl (by assumption) rfl) ?_))))
   refine E.gr rfl (E.Runs.load1 rfl rfl hu26 rfl (by first | assumption | exact E.blkc (by assumption) rfl | exact pw_cell_below L (by assumption))) ?_
   refine E.gr rfl (E.Runs.len rfl rfl hu26) ?_
   refine E.GL.cmp rfl rfl rfl (fun _ h => (E.Runs.lss rfl rfl rfl h)) (fun h17 => ?_) (fun h17 => ?_)
   ·obtain ⟨c, hc⟩ := get_ex (show i < V.cs.length by omega)
    obtain ⟨ad, a3, k3, a4, k4, eA, hx0, X⟩ := con_at hM.cs hc
    have hc3 := hs.s c (mem_of hc)
    have hc4 := hs.t c (mem_of hc)
    have Kr := Below.refl w3.heap.size w3
    have hL3 := L.size
    have s5b1 := b1
    have s5b2 := b2
    have s5b3 := b3
    have s5hD := hD
    have s5r := r11
    have s5L := L
    refine E.gd (E.qc (E.CG.cond_t rfl (E.CG.skip (E.qc (E.cs (E.CG.block (E.cs (E.cl (E.gr rfl (E.Runs.fieldAddr rfl rfl hu29 rfl (by assumption) rfl) ?_)))))))))
    refine E.gr rfl (E.Runs.load1 rfl rfl hu26 rfl (by first | assumption | exact E.blkc (by assumption) rfl | exact pw_cell_below L (by assumption) | exact pw_cell_below Kr (by assumption))) ?_
    refine E.gm rfl rfl rfl (E.gr rfl (E.Runs.indexAddrA (i := i) rfl rfl rfl hu26 z36 o36 (by omega) eA rfl) ?_)
    refine E.gr rfl (E.Runs.loads (cs := [.int .i64 c.f0, .int .i64 c.f1, .int .i64 c.f2, .slice a3 c.f3.length k3, .slice a4 c.f4.length k4, .int .i64 c.f5, .int .i64 c.f6, .int .i64 c.f7, .int .i64 c.f8]) rfl rfl hu36 rfl info36s (fun j v hv => pw_cell_below L (X j v hv))) ?_
    refine E.GL.st rfl rfl rfl (E.ST.alloc rfl info36z fun g5 w5 e5 b5 l5 => ?_)
    have h5_L : w.heap.size ≤ g5 := by rw [e5]; exact L.size
    have h5_Kr : w3.heap.size ≤ g5 := by rw [e5]; exact Kr.size
    have n5_b1 : g1 ≠ g5 := by have := blk_lt b1; omega
    have n5_b2 : g2 ≠ g5 := by have := blk_lt b2; omega
    have n5_b3 : g3 ≠ g5 := by have := blk_lt b3; omega
    replace b1 := blk_below b1 l5
    replace b2 := blk_below b2 l5
    replace b3 := blk_below b3 l5
    replace L := below_step L l5
    replace Kr := below_step Kr l5
    refine E.GL.store_whole rfl rfl rfl rfl rfl b5 rfl info36s (con_one _ _ _ _ _ _ _ _ _ _ _ _ _) fun wS5_6 c5 lS5_6 => ?_
    replace b1 := blk_grown b1 lS5_6 (E.nes (by first | assumption | exact Ne.symm (by assumption)))
    replace b2 := blk_grown b2 lS5_6 (E.nes (by first | assumption | exact Ne.symm (by assumption)))
    replace b3 := blk_grown b3 lS5_6 (E.nes (by first | assumption | exact Ne.symm (by assumption)))
    replace L := E.below_own L h5_L lS5_6
    replace Kr := E.below_own Kr h5_Kr lS5_6
    replace b5 := c5
    clear c5
    refine E.gd (E.qc (E.cs (E.CG.heldJ 9 (fun v W => v.grownBy W none) (fun _ _ => True) (by kernel_rfl) (by kernel_rfl) (fun v => World.grownBy.refl _ _) fun v6 lD => ?_)))
    replace b1 := blk_below b1 lD
    replace b2 := blk_below b2 lD
    replace b3 := blk_below b3 lD
    replace b5 := blk_below b5 lD
    replace L := below_step L lD
    replace Kr := below_step Kr lD
    clear lD
    have hh : v6.grownBy v6 none := World.grownBy.refl _ _
    refine E.GJ.take1 (i := 1) rfl (by kernel_rfl) (by kernel_rfl) (by kernel_rfl) (by kernel_rfl) rfl (by kernel_rfl) (by kernel_rfl) (by intro c a d v w h; first | (cases d <;> exact h) | exact nomatch (show _ ∧ _ from h).1) rfl rfl rfl (fun w' hS => (E.Runs.fieldAddr rfl rfl hu36 rfl (by assumption) rfl)) ?_
    refine E.GJ.take1 (i := 2) rfl (by kernel_rfl) (by kernel_rfl) (by kernel_rfl) (by kernel_rfl) rfl (by kernel_rfl) (by kernel_rfl) (by intro c a d v w h; first | (cases d <;> exact h) | exact nomatch (show _ ∧ _ from h).1) rfl rfl rfl (fun w' hS => (E.Runs.load1 rfl rfl hu22 rfl (by first | exact E.keeps hS (E.blkc (by assumption) rfl) (by first | exact E.nen | exact E.nes (by assumption) | exact E.nes (Ne.symm (by assumption))) | exact pw_cell_below (below_step s_L (E.belowG hS)) (by assumption) | exact pw_cell_below (below_step s_Kr (E.belowG hS)) (by assumption)))) ?_
    refine E.GJ.take1 (i := 5) rfl (by kernel_rfl) (by kernel_rfl) (by kernel_rfl) (by kernel_rfl) rfl (by kernel_rfl) (by kernel_rfl) (by intro c a d v w h; first | (cases d <;> exact h) | exact nomatch (show _ ∧ _ from h).1) rfl rfl rfl (fun w' hS => (E.Runs.fieldAddr rfl rfl hu36 rfl (by assumption) rfl)) ?_
    refine E.GJ.take1 (i := 6) rfl (by kernel_rfl) (by kernel_rfl) (by kernel_rfl) (by kernel_rfl) rfl (by kernel_rfl) (by kernel_rfl) (by intro c a d v w h; first | (cases d <;> exact h) | exact nomatch (show _ ∧ _ from h).1) rfl rfl rfl (fun w' hS => (E.Runs.load1 rfl rfl hu34 rfl (by first | exact E.keeps hS (E.blkc (by assumption) rfl) (by first | exact E.nen | exact E.nes (by assumption) | exact E.nes (Ne.symm (by assumption))) | exact pw_cell_below (below_step s_L (E.belowG hS)) (by assumption) | exact pw_cell_below (below_step s_Kr (E.belowG hS)) (by assumption)))) ?_
    refine E.GJ.two (i := 0) (j := 4) (by kernel_rfl) ?_ ?_
    ·refine (E.OJ.st rfl rfl rfl rfl (E.ST.litAt kI w3.heap.size (w0 := w3) (ys := ([] : List Int)) (inner := []) rfl rfl E.epn lit22n (Reps.none _ _) Kr Kr.size (by simp) fun u25 w25 r25 k25 l25 n25 => ⟨(E.SJ.before (by kernel_rfl)).mpr (hh.trans (E.gbB l25)), ?_⟩))
     have hn25 : ∀ i, u25.ownBlock = some i → v6.heap.size ≤ i := fun i hi => by obtain ⟨k, e, h⟩ := n25; rw [e] at hi; injection hi with hi; subst hi; exact Nat.le_trans hh.size h
     replace hh := hh.trans (E.gbB l25)
     replace Kr := k25
     replace b5 := blk_below b5 l25
     refine E.GJ.two (i := 3) (j := 4) (by kernel_rfl) ?_ ?_
     ·refine (E.OJ.st rfl rfl rfl rfl (E.ST.appendRows kI w3.heap.size (w0 := w3) (s := .tmp 25) (x := .tmp 27) rfl hu22 info3 rfl (by decide) (by decide) rfl rfl r25 (Kd.C_below hx0.s (below_step s5L Kr)) made3 Kr Kr.size (by simp only [List.length_nil]; omega) fun u28 w28 R28 k28 g28 => ⟨(E.SJ.before (by kernel_rfl)).mpr (E.gb_row hh g28 hn25), ?_⟩))
      replace b5 := blk_grown b5 g28 (Kd.R_ne r25 b5 (by decide))
      replace hh := E.gb_row hh g28 hn25
      replace Kr := k28
      rw [List.nil_append] at R28
      obtain ⟨A28, c28, hv28⟩ := Kd.R_slice R28
      subst hv28
      refine E.GJ.take1 (i := 8) rfl (by kernel_rfl) (by kernel_rfl) (by kernel_rfl) (by kernel_rfl) rfl (by kernel_rfl) (by kernel_rfl) (by intro c a d v w h; first | (cases d <;> exact h) | exact nomatch (show _ ∧ _ from h).1) rfl rfl rfl (fun w' hS => (E.Runs.fieldAddr rfl rfl hu36 rfl (by assumption) rfl)) ?_
      refine E.GJ.one (i := 4) (by kernel_rfl) (E.OJ.st rfl rfl rfl rfl (E.ST.litAt k86 w3.heap.size (w0 := w3) (ys := ([] : List S86)) (inner := []) rfl rfl E.epn lit34n (Reps.none _ _) Kr Kr.size (by simp) fun u29 w29 r29 k29 l29 n29 => ⟨(E.SJ.before (by kernel_rfl)).mpr (hh.trans (E.gbB l29)), ?_⟩))
      have hn29 : ∀ i, u29.ownBlock = some i → v6.heap.size ≤ i := fun i hi => by obtain ⟨k, e, h⟩ := n29; rw [e] at hi; injection hi with hi; subst hi; exact Nat.le_trans hh.size h
      replace hh := hh.trans (E.gbB l29)
      replace Kr := k29
      replace b5 := blk_below b5 l29
      replace R28 := Kd.R_below R28 l29
      refine E.GJ.one (i := 7) (by kernel_rfl) (E.OJ.st rfl rfl rfl rfl (E.ST.appendRows k86 w3.heap.size (w0 := w3) (s := .tmp 29) (x := .tmp 31) rfl hu34 info86 rfl (by decide) (by decide) rfl rfl r29 (Kd.C_below hx0.t (below_step s5L Kr)) made86 Kr Kr.size (by simp only [List.length_nil]; omega) fun u32 w32 R32 k32 g32 => ⟨(E.SJ.before (by kernel_rfl)).mpr (E.gb_row hh g32 hn29), ?_⟩))
      replace b5 := blk_grown b5 g32 (Kd.R_ne r29 b5 (by decide))
      replace hh := E.gb_row hh g32 hn29
      replace Kr := k32
      rw [List.nil_append] at R32
      obtain ⟨A32, c32, hv32⟩ := Kd.R_slice R32
      subst hv32
      replace R28 := E.R_over' R28 r29 (by decide) g32
      refine E.GJ.one (i := 9) (by kernel_rfl) (E.OJ.sn rfl rfl rfl (E.ST.storeSl (cs := [.int .i64 c.f0, .int .i64 c.f1, .int .i64 c.f2, .slice a3 c.f3.length k3, .slice a4 c.f4.length k4, .int .i64 c.f5, .int .i64 c.f6, .int .i64 c.f7, .int .i64 c.f8]) (cs' := [.int .i64 c.f0, .int .i64 c.f1, .int .i64 c.f2, .slice A28 c.f3.length c28, .slice a4 c.f4.length k4, .int .i64 c.f5, .int .i64 c.f6, .int .i64 c.f7, .int .i64 c.f8]) rfl z22 o22 rfl rfl b5 rfl rfl fun wS9 c9 lS9 => ⟨(E.SJ.behind (by kernel_rfl)).mpr trivial, ?_⟩))
      replace R28 := E.R_over R28 b5 (by decide) lS9
      replace R32 := E.R_over R32 b5 (by decide) lS9
      replace Kr := E.below_own Kr h5_Kr lS9
      replace b5 := c9
      refine E.GJ.one (i := 10) (by kernel_rfl) (E.OJ.st rfl rfl rfl rfl (E.ST.reads (E.Runs.fieldAddr rfl rfl hu36 rfl (by assumption) rfl) ⟨(E.SJ.behind (by kernel_rfl)).mpr trivial, ?_⟩))
      refine E.GJ.one (i := 11) (by kernel_rfl) (E.OJ.sn rfl rfl rfl (E.ST.storeSl (cs := [.int .i64 c.f0, .int .i64 c.f1, .int .i64 c.f2, .slice A28 c.f3.length c28, .slice a4 c.f4.length k4, .int .i64 c.f5, .int .i64 c.f6, .int .i64 c.f7, .int .i64 c.f8]) (cs' := [.int .i64 c.f0, .int .i64 c.f1, .int .i64 c.f2, .slice A28 c.f3.length c28, .slice A32 c.f4.length c32, .int .i64 c.f5, .int .i64 c.f6, .int .i64 c.f7, .int .i64 c.f8]) rfl z34 o34 rfl rfl b5 rfl rfl fun wS11 c11_ lS11 => ⟨(E.SJ.behind (by kernel_rfl)).mpr trivial, ?_⟩))
      replace R28 := E.R_over R28 b5 (by decide) lS11
      replace R32 := E.R_over R32 b5 (by decide) lS11
      replace Kr := E.below_own Kr h5_Kr lS11
      replace b5 := c11_
      replace b1 := blk_below s5b1 Kr
      replace b2 := blk_below s5b2 Kr
      replace b3 := blk_below s5b3 Kr
      replace hD := Kd.R_below s5hD Kr
      replace r11 := Kd.R_below s5r Kr
      replace L := below_step s5L Kr
      refine E.GJ.done (by kernel_rfl) ?_
      refine E.qc (E.cl (E.gr rfl (E.Runs.fieldAddr rfl rfl hu29 rfl (by assumption) rfl) ?_))
      refine E.gr rfl (E.Runs.load1 rfl rfl hu26 rfl (by first | assumption | exact E.blkc (by assumption) rfl | exact pw_cell_below L (by assumption) | exact pw_cell_below Kr (by assumption))) ?_
      refine E.gr rfl (E.Runs.loads (cs := [.int .i64 c.f0, .int .i64 c.f1, .int .i64 c.f2, .slice A28 c.f3.length c28, .slice A32 c.f4.length c32, .int .i64 c.f5, .int .i64 c.f6, .int .i64 c.f7, .int .i64 c.f8]) rfl rfl hu36 rfl info36s (blk_cells b5)) ?_
      refine E.GL.st rfl rfl rfl (E.ST.lit rfl (E.epc rfl E.epn) (lit26_1 _ _ _ _ _ _ _ _ _ _ _ _ _) ?_)
      refine E.GL.st rfl rfl rfl (E.ST.appendR k36 w.heap.size (w0 := w) (s := .tmp 36) (x := .tmp 38) rfl hu26 info36 rfl (by decide) (by decide) c rfl rfl (k36_mkM _ _ _ c (E.apart_R (Kd.R_lower R28 hL3) hD (by decide)) (E.apart_R (Kd.R_lower R32 hL3) hD (by decide))) hD L L.size (by rw [List.length_take]; omega) fun u39 w39 r39 k39 gr39 at39 => ?_)
      replace b1 := blk_grown b1 gr39 (Kd.R_ne hD b1 (by decide))
      replace b2 := blk_grown b2 gr39 (Kd.R_ne hD b2 (by decide))
      replace b3 := blk_grown b3 gr39 (Kd.R_ne hD b3 (by decide))
      replace r11 := E.R_over' r11 hD (by decide) gr39
      replace L := k39
      replace hD := r39
      rw [E.take_snoc hc] at hD
      obtain ⟨D', d', hv39⟩ := Kd.R_slice hD
      rw [List.length_take, Nat.min_eq_left (show i + 1 ≤ V.cs.length by omega)] at hv39
      subst hv39
      refine E.gr rfl (E.Runs.fieldAddr rfl rfl hu29 rfl (by assumption) rfl) ?_
      refine E.GL.sn rfl rfl (E.ST.storeSl (cs := [.int .i64 V.tax, v3, .slice A11 V.rs.length c11]) (cs' := [.int .i64 V.tax, .slice D' (i + 1) d', .slice A11 V.rs.length c11]) rfl z26 o26 rfl rfl b3 rfl rfl fun wS7 c3 lS7 => ?_)
      replace b1 := blk_grown b1 lS7 (E.nes n31)
      replace b2 := blk_grown b2 lS7 (E.nes n32)
      replace hD := E.R_over hD b3 (by decide) lS7
      replace r11 := E.R_over r11 b3 (by decide) lS7
      replace L := E.below_own L h3 lS7
      replace b3 := c3
      refine E.gd (E.QG.block_normal (E.qc (E.cl (E.gm rfl rfl rfl (E.gr rfl (E.Runs.add rfl rfl rfl (IntWalk.i64_in _ (by omega))) ?_)))))
      refine E.ga rfl rfl rfl (E.gd ?_)
      exact E.QG.round2 (d := .slice none 0 0) (i + 1) _ (E.subc rfl (E.subc rfl (E.subc rfl (E.subc rfl E.subn)))) ⟨by omega, b1, b2, b3, hD, r11, L⟩ (by omega)
     ·refine (E.OJ.st rfl rfl rfl rfl (E.ST.litAt k86 w3.heap.size (w0 := w3) (ys := ([] : List S86)) (inner := []) rfl rfl E.epn lit34n (Reps.none _ _) Kr Kr.size (by simp) fun u29 w29 r29 k29 l29 n29 => ⟨(E.SJ.before (by kernel_rfl)).mpr (hh.trans (E.gbB l29)), ?_⟩))
      have hn29 : ∀ i, u29.ownBlock = some i → v6.heap.size ≤ i := fun i hi => by obtain ⟨k, e, h⟩ := n29; rw [e] at hi; injection hi with hi; subst hi; exact Nat.le_trans hh.size h
      replace hh := hh.trans (E.gbB l29)
      replace Kr := k29
      replace b5 := blk_below b5 l29
      replace r25 := Kd.R_below r25 l29
      refine E.GJ.one (i := 3) (by kernel_rfl) (E.OJ.st rfl rfl rfl rfl (E.ST.appendRows kI w3.heap.size (w0 := w3) (s := .tmp 25) (x := .tmp 27) rfl hu22 info3 rfl (by decide) (by decide) rfl rfl r25 (Kd.C_below hx0.s (below_step s5L Kr)) made3 Kr Kr.size (by simp only [List.length_nil]; omega) fun u28 w28 R28 k28 g28 => ⟨(E.SJ.before (by kernel_rfl)).mpr (E.gb_row hh g28 hn25), ?_⟩))
      replace b5 := blk_grown b5 g28 (Kd.R_ne r25 b5 (by decide))
      replace hh := E.gb_row hh g28 hn25
      replace Kr := k28
      rw [List.nil_append] at R28
      obtain ⟨A28, c28, hv28⟩ := Kd.R_slice R28
      subst hv28
      replace r29 := E.R_over' r29 r25 (by decide) g28
      refine E.GJ.take1 (i := 8) rfl (by kernel_rfl) (by kernel_rfl) (by kernel_rfl) (by kernel_rfl) rfl (by kernel_rfl) (by kernel_rfl) (by intro c a d v w h; first | (cases d <;> exact h) | exact nomatch (show _ ∧ _ from h).1) rfl rfl rfl (fun w' hS => (E.Runs.fieldAddr rfl rfl hu36 rfl (by assumption) rfl)) ?_
      refine E.GJ.one (i := 7) (by kernel_rfl) (E.OJ.st rfl rfl rfl rfl (E.ST.appendRows k86 w3.heap.size (w0 := w3) (s := .tmp 29) (x := .tmp 31) rfl hu34 info86 rfl (by decide) (by decide) rfl rfl r29 (Kd.C_below hx0.t (below_step s5L Kr)) made86 Kr Kr.size (by simp only [List.length_nil]; omega) fun u32 w32 R32 k32 g32 => ⟨(E.SJ.before (by kernel_rfl)).mpr (E.gb_row hh g32 hn29), ?_⟩))
      replace b5 := blk_grown b5 g32 (Kd.R_ne r29 b5 (by decide))
      replace hh := E.gb_row hh g32 hn29
      replace Kr := k32
      rw [List.nil_append] at R32
      obtain ⟨A32, c32, hv32⟩ := Kd.R_slice R32
      subst hv32
      replace R28 := E.R_over' R28 r29 (by decide) g32
      refine E.GJ.one (i := 9) (by kernel_rfl) (E.OJ.sn rfl rfl rfl (E.ST.storeSl (cs := [.int .i64 c.f0, .int .i64 c.f1, .int .i64 c.f2, .slice a3 c.f3.length k3, .slice a4 c.f4.length k4, .int .i64 c.f5, .int .i64 c.f6, .int .i64 c.f7, .int .i64 c.f8]) (cs' := [.int .i64 c.f0, .int .i64 c.f1, .int .i64 c.f2, .slice A28 c.f3.length c28, .slice a4 c.f4.length k4, .int .i64 c.f5, .int .i64 c.f6, .int .i64 c.f7, .int .i64 c.f8]) rfl z22 o22 rfl rfl b5 rfl rfl fun wS9 c9 lS9 => ⟨(E.SJ.behind (by kernel_rfl)).mpr trivial, ?_⟩))
      replace R28 := E.R_over R28 b5 (by decide) lS9
      replace R32 := E.R_over R32 b5 (by decide) lS9
      replace Kr := E.below_own Kr h5_Kr lS9
      replace b5 := c9
      refine E.GJ.one (i := 10) (by kernel_rfl) (E.OJ.st rfl rfl rfl rfl (E.ST.reads (E.Runs.fieldAddr rfl rfl hu36 rfl (by assumption) rfl) ⟨(E.SJ.behind (by kernel_rfl)).mpr trivial, ?_⟩))
      refine E.GJ.one (i := 11) (by kernel_rfl) (E.OJ.sn rfl rfl rfl (E.ST.storeSl (cs := [.int .i64 c.f0, .int .i64 c.f1, .int .i64 c.f2, .slice A28 c.f3.length c28, .slice a4 c.f4.length k4, .int .i64 c.f5, .int .i64 c.f6, .int .i64 c.f7, .int .i64 c.f8]) (cs' := [.int .i64 c.f0, .int .i64 c.f1, .int .i64 c.f2, .slice A28 c.f3.length c28, .slice A32 c.f4.length c32, .int .i64 c.f5, .int .i64 c.f6, .int .i64 c.f7, .int .i64 c.f8]) rfl z34 o34 rfl rfl b5 rfl rfl fun wS11 c11_ lS11 => ⟨(E.SJ.behind (by kernel_rfl)).mpr trivial, ?_⟩))
      replace R28 := E.R_over R28 b5 (by decide) lS11
      replace R32 := E.R_over R32 b5 (by decide) lS11
      replace Kr := E.below_own Kr h5_Kr lS11
      replace b5 := c11_
      replace b1 := blk_below s5b1 Kr
      replace b2 := blk_below s5b2 Kr
      replace b3 := blk_below s5b3 Kr
      replace hD := Kd.R_below s5hD Kr
      replace r11 := Kd.R_below s5r Kr
      replace L := below_step s5L Kr
      refine E.GJ.done (by kernel_rfl) ?_
      refine E.qc (E.cl (E.gr rfl (E.Runs.fieldAddr rfl rfl hu29 rfl (by assumption) rfl) ?_))
      refine E.gr rfl (E.Runs.load1 rfl rfl hu26 rfl (by first | assumption | exact E.blkc (by assumption) rfl | exact pw_cell_below L (by assumption) | exact pw_cell_below Kr (by assumption))) ?_
      refine E.gr rfl (E.Runs.loads (cs := [.int .i64 c.f0, .int .i64 c.f1, .int .i64 c.f2, .slice A28 c.f3.length c28, .slice A32 c.f4.length c32, .int .i64 c.f5, .int .i64 c.f6, .int .i64 c.f7, .int .i64 c.f8]) rfl rfl hu36 rfl info36s (blk_cells b5)) ?_
      refine E.GL.st rfl rfl rfl (E.ST.lit rfl (E.epc rfl E.epn) (lit26_1 _ _ _ _ _ _ _ _ _ _ _ _ _) ?_)
      refine E.GL.st rfl rfl rfl (E.ST.appendR k36 w.heap.size (w0 := w) (s := .tmp 36) (x := .tmp 38) rfl hu26 info36 rfl (by decide) (by decide) c rfl rfl (k36_mkM _ _ _ c (E.apart_R (Kd.R_lower R28 hL3) hD (by decide)) (E.apart_R (Kd.R_lower R32 hL3) hD (by decide))) hD L L.size (by rw [List.length_take]; omega) fun u39 w39 r39 k39 gr39 at39 => ?_)
      replace b1 := blk_grown b1 gr39 (Kd.R_ne hD b1 (by decide))
      replace b2 := blk_grown b2 gr39 (Kd.R_ne hD b2 (by decide))
      replace b3 := blk_grown b3 gr39 (Kd.R_ne hD b3 (by decide))
      replace r11 := E.R_over' r11 hD (by decide) gr39
      replace L := k39
      replace hD := r39
      rw [E.take_snoc hc] at hD
      obtain ⟨D', d', hv39⟩ := Kd.R_slice hD
      rw [List.length_take, Nat.min_eq_left (show i + 1 ≤ V.cs.length by omega)] at hv39
      subst hv39
      refine E.gr rfl (E.Runs.fieldAddr rfl rfl hu29 rfl (by assumption) rfl) ?_
      refine E.GL.sn rfl rfl (E.ST.storeSl (cs := [.int .i64 V.tax, v3, .slice A11 V.rs.length c11]) (cs' := [.int .i64 V.tax, .slice D' (i + 1) d', .slice A11 V.rs.length c11]) rfl z26 o26 rfl rfl b3 rfl rfl fun wS7 c3 lS7 => ?_)
      replace b1 := blk_grown b1 lS7 (E.nes n31)
      replace b2 := blk_grown b2 lS7 (E.nes n32)
      replace hD := E.R_over hD b3 (by decide) lS7
      replace r11 := E.R_over r11 b3 (by decide) lS7
      replace L := E.below_own L h3 lS7
      replace b3 := c3
      refine E.gd (E.QG.block_normal (E.qc (E.cl (E.gm rfl rfl rfl (E.gr rfl (E.Runs.add rfl rfl rfl (IntWalk.i64_in _ (by omega))) ?_)))))
      refine E.ga rfl rfl rfl (E.gd ?_)
      exact E.QG.round2 (d := .slice none 0 0) (i + 1) _ (E.subc rfl (E.subc rfl (E.subc rfl (E.subc rfl E.subn)))) ⟨by omega, b1, b2, b3, hD, r11, L⟩ (by omega)
    ·refine (E.OJ.st rfl rfl rfl rfl (E.ST.litAt k86 w3.heap.size (w0 := w3) (ys := ([] : List S86)) (inner := []) rfl rfl E.epn lit34n (Reps.none _ _) Kr Kr.size (by simp) fun u29 w29 r29 k29 l29 n29 => ⟨(E.SJ.before (by kernel_rfl)).mpr (hh.trans (E.gbB l29)), ?_⟩))
     have hn29 : ∀ i, u29.ownBlock = some i → v6.heap.size ≤ i := fun i hi => by obtain ⟨k, e, h⟩ := n29; rw [e] at hi; injection hi with hi; subst hi; exact Nat.le_trans hh.size h
     replace hh := hh.trans (E.gbB l29)
     replace Kr := k29
     replace b5 := blk_below b5 l29
     refine E.GJ.one (i := 0) (by kernel_rfl) (E.OJ.st rfl rfl rfl rfl (E.ST.litAt kI w3.heap.size (w0 := w3) (ys := ([] : List Int)) (inner := []) rfl rfl E.epn lit22n (Reps.none _ _) Kr Kr.size (by simp) fun u25 w25 r25 k25 l25 n25 => ⟨(E.SJ.before (by kernel_rfl)).mpr (hh.trans (E.gbB l25)), ?_⟩))
     have hn25 : ∀ i, u25.ownBlock = some i → v6.heap.size ≤ i := fun i hi => by obtain ⟨k, e, h⟩ := n25; rw [e] at hi; injection hi with hi; subst hi; exact Nat.le_trans hh.size h
     replace hh := hh.trans (E.gbB l25)
     replace Kr := k25
     replace b5 := blk_below b5 l25
     replace r29 := Kd.R_below r29 l25
     refine E.GJ.one (i := 3) (by kernel_rfl) (E.OJ.st rfl rfl rfl rfl (E.ST.appendRows kI w3.heap.size (w0 := w3) (s := .tmp 25) (x := .tmp 27) rfl hu22 info3 rfl (by decide) (by decide) rfl rfl r25 (Kd.C_below hx0.s (below_step s5L Kr)) made3 Kr Kr.size (by simp only [List.length_nil]; omega) fun u28 w28 R28 k28 g28 => ⟨(E.SJ.before (by kernel_rfl)).mpr (E.gb_row hh g28 hn25), ?_⟩))
     replace b5 := blk_grown b5 g28 (Kd.R_ne r25 b5 (by decide))
     replace hh := E.gb_row hh g28 hn25
     replace Kr := k28
     rw [List.nil_append] at R28
     obtain ⟨A28, c28, hv28⟩ := Kd.R_slice R28
     subst hv28
     replace r29 := E.R_over' r29 r25 (by decide) g28
     refine E.GJ.take1 (i := 8) rfl (by kernel_rfl) (by kernel_rfl) (by kernel_rfl) (by kernel_rfl) rfl (by kernel_rfl) (by kernel_rfl) (by intro c a d v w h; first | (cases d <;> exact h) | exact nomatch (show _ ∧ _ from h).1) rfl rfl rfl (fun w' hS => (E.Runs.fieldAddr rfl rfl hu36 rfl (by assumption) rfl)) ?_
     refine E.GJ.one (i := 7) (by kernel_rfl) (E.OJ.st rfl rfl rfl rfl (E.ST.appendRows k86 w3.heap.size (w0 := w3) (s := .tmp 29) (x := .tmp 31) rfl hu34 info86 rfl (by decide) (by decide) rfl rfl r29 (Kd.C_below hx0.t (below_step s5L Kr)) made86 Kr Kr.size (by simp only [List.length_nil]; omega) fun u32 w32 R32 k32 g32 => ⟨(E.SJ.before (by kernel_rfl)).mpr (E.gb_row hh g32 hn29), ?_⟩))
     replace b5 := blk_grown b5 g32 (Kd.R_ne r29 b5 (by decide))
     replace hh := E.gb_row hh g32 hn29
     replace Kr := k32
     rw [List.nil_append] at R32
     obtain ⟨A32, c32, hv32⟩ := Kd.R_slice R32
     subst hv32
     replace R28 := E.R_over' R28 r29 (by decide) g32
     refine E.GJ.one (i := 9) (by kernel_rfl) (E.OJ.sn rfl rfl rfl (E.ST.storeSl (cs := [.int .i64 c.f0, .int .i64 c.f1, .int .i64 c.f2, .slice a3 c.f3.length k3, .slice a4 c.f4.length k4, .int .i64 c.f5, .int .i64 c.f6, .int .i64 c.f7, .int .i64 c.f8]) (cs' := [.int .i64 c.f0, .int .i64 c.f1, .int .i64 c.f2, .slice A28 c.f3.length c28, .slice a4 c.f4.length k4, .int .i64 c.f5, .int .i64 c.f6, .int .i64 c.f7, .int .i64 c.f8]) rfl z22 o22 rfl rfl b5 rfl rfl fun wS9 c9 lS9 => ⟨(E.SJ.behind (by kernel_rfl)).mpr trivial, ?_⟩))
     replace R28 := E.R_over R28 b5 (by decide) lS9
     replace R32 := E.R_over R32 b5 (by decide) lS9
     replace Kr := E.below_own Kr h5_Kr lS9
     replace b5 := c9
     refine E.GJ.one (i := 10) (by kernel_rfl) (E.OJ.st rfl rfl rfl rfl (E.ST.reads (E.Runs.fieldAddr rfl rfl hu36 rfl (by assumption) rfl) ⟨(E.SJ.behind (by kernel_rfl)).mpr trivial, ?_⟩))
     refine E.GJ.one (i := 11) (by kernel_rfl) (E.OJ.sn rfl rfl rfl (E.ST.storeSl (cs := [.int .i64 c.f0, .int .i64 c.f1, .int .i64 c.f2, .slice A28 c.f3.length c28, .slice a4 c.f4.length k4, .int .i64 c.f5, .int .i64 c.f6, .int .i64 c.f7, .int .i64 c.f8]) (cs' := [.int .i64 c.f0, .int .i64 c.f1, .int .i64 c.f2, .slice A28 c.f3.length c28, .slice A32 c.f4.length c32, .int .i64 c.f5, .int .i64 c.f6, .int .i64 c.f7, .int .i64 c.f8]) rfl z34 o34 rfl rfl b5 rfl rfl fun wS11 c11_ lS11 => ⟨(E.SJ.behind (by kernel_rfl)).mpr trivial, ?_⟩))
     replace R28 := E.R_over R28 b5 (by decide) lS11
     replace R32 := E.R_over R32 b5 (by decide) lS11
     replace Kr := E.below_own Kr h5_Kr lS11
     replace b5 := c11_
     replace b1 := blk_below s5b1 Kr
     replace b2 := blk_below s5b2 Kr
     replace b3 := blk_below s5b3 Kr
     replace hD := Kd.R_below s5hD Kr
     replace r11 := Kd.R_below s5r Kr
     replace L := below_step s5L Kr
     refine E.GJ.done (by kernel_rfl) ?_
     refine E.qc (E.cl (E.gr rfl (E.Runs.fieldAddr rfl rfl hu29 rfl (by assumption) rfl) ?_))
     refine E.gr rfl (E.Runs.load1 rfl rfl hu26 rfl (by first | assumption | exact E.blkc (by assumption) rfl | exact pw_cell_below L (by assumption) | exact pw_cell_below Kr (by assumption))) ?_
     refine E.gr rfl (E.Runs.loads (cs := [.int .i64 c.f0, .int .i64 c.f1, .int .i64 c.f2, .slice A28 c.f3.length c28, .slice A32 c.f4.length c32, .int .i64 c.f5, .int .i64 c.f6, .int .i64 c.f7, .int .i64 c.f8]) rfl rfl hu36 rfl info36s (blk_cells b5)) ?_
     refine E.GL.st rfl rfl rfl (E.ST.lit rfl (E.epc rfl E.epn) (lit26_1 _ _ _ _ _ _ _ _ _ _ _ _ _) ?_)
     refine E.GL.st rfl rfl rfl (E.ST.appendR k36 w.heap.size (w0 := w) (s := .tmp 36) (x := .tmp 38) rfl hu26 info36 rfl (by decide) (by decide) c rfl rfl (k36_mkM _ _ _ c (E.apart_R (Kd.R_lower R28 hL3) hD (by decide)) (E.apart_R (Kd.R_lower R32 hL3) hD (by decide))) hD L L.size (by rw [List.length_take]; omega) fun u39 w39 r39 k39 gr39 at39 => ?_)
     replace b1 := blk_grown b1 gr39 (Kd.R_ne hD b1 (by decide))
     replace b2 := blk_grown b2 gr39 (Kd.R_ne hD b2 (by decide))
     replace b3 := blk_grown b3 gr39 (Kd.R_ne hD b3 (by decide))
     replace r11 := E.R_over' r11 hD (by decide) gr39
     replace L := k39
     replace hD := r39
     rw [E.take_snoc hc] at hD
     obtain ⟨D', d', hv39⟩ := Kd.R_slice hD
     rw [List.length_take, Nat.min_eq_left (show i + 1 ≤ V.cs.length by omega)] at hv39
     subst hv39
     refine E.gr rfl (E.Runs.fieldAddr rfl rfl hu29 rfl (by assumption) rfl) ?_
     refine E.GL.sn rfl rfl (E.ST.storeSl (cs := [.int .i64 V.tax, v3, .slice A11 V.rs.length c11]) (cs' := [.int .i64 V.tax, .slice D' (i + 1) d', .slice A11 V.rs.length c11]) rfl z26 o26 rfl rfl b3 rfl rfl fun wS7 c3 lS7 => ?_)
     replace b1 := blk_grown b1 lS7 (E.nes n31)
     replace b2 := blk_grown b2 lS7 (E.nes n32)
     replace hD := E.R_over hD b3 (by decide) lS7
     replace r11 := E.R_over r11 b3 (by decide) lS7
     replace L := E.below_own L h3 lS7
     replace b3 := c3
     refine E.gd (E.QG.block_normal (E.qc (E.cl (E.gm rfl rfl rfl (E.gr rfl (E.Runs.add rfl rfl rfl (IntWalk.i64_in _ (by omega))) ?_)))))
     refine E.ga rfl rfl rfl (E.gd ?_)
     exact E.QG.round2 (d := .slice none 0 0) (i + 1) _ (E.subc rfl (E.subc rfl (E.subc rfl (E.subc rfl E.subn)))) ⟨by omega, b1, b2, b3, hD, r11, L⟩ (by omega)
   ·obtain rfl : i = V.cs.length := by omega
    rw [List.take_length] at hD
    obtain ⟨D, d, rfl⟩ := Kd.R_slice hD
    refine E.gd (E.qc (E.CG.cond_f rfl (E.CG.exit (E.QG.pass_exit (E.QG.pass_exit (E.QG.block_here (E.qc (E.cs ?_))))))))
    have s8b2 := b2
    refine E.cl (E.gr rfl (E.Runs.loads (cs := [.int .i64 V.tax, .slice D V.cs.length d, .slice A11 V.rs.length c11]) rfl rfl hu29 rfl info29s (blk_cells b3)) ?_)
    refine E.GL.store_whole rfl rfl rfl rfl rfl b2 rfl info29s (books_one _ _ _ _ _ _ _) fun wS8_1 c2 lS8_1 => ?_
    replace b1 := blk_grown b1 lS8_1 (E.nes (by first | assumption | exact Ne.symm (by assumption)))
    replace b3 := blk_grown b3 lS8_1 (E.nes (by first | assumption | exact Ne.symm (by assumption)))
    replace L := E.below_own L h2_L lS8_1
    replace b2 := c2
    clear c2
    refine E.gd (E.qc (E.CG.ret ?_))
    exact E.QG.result_c rfl rfl b2 hu29 rfl info29s ⟨⟨D, d, A11, c11⟩, rfl, ⟨E.R_over hD s8b2 (by decide) lS8_1, E.R_over r11 s8b2 (by decide) lS8_1⟩, L⟩
 ·refine (E.OJ.st rfl rfl rfl rfl (E.ST.alloc rfl info29z fun g3 w3 e3 b3 l3 => ⟨(E.SJ.before (by kernel_rfl)).mpr (hh.trans (E.gbB l3)), ?_⟩))
  have h3 : w.heap.size ≤ g3 := by rw [e3]; exact L.size
  have n31 : g1 ≠ g3 := by have := blk_lt b1; omega
  have n32 : g2 ≠ g3 := by have := blk_lt b2; omega
  replace hh := hh.trans (E.gbB l3)
  replace L := below_step L l3
  replace b1 := blk_below b1 l3
  replace b2 := blk_below b2 l3
  refine E.GJ.one (i := 2) (by kernel_rfl) (E.OJ.st rfl rfl rfl rfl (E.ST.litAt k55 w.heap.size (w0 := w) (ys := ([] : List S55)) (inner := []) rfl rfl E.epn lit27n (Reps.none _ _) L L.size (by simp) fun u8 w8 r8 k8 l8 n8 => ⟨(E.SJ.before (by kernel_rfl)).mpr (hh.trans (E.gbB l8)), ?_⟩))
  have hn8 : ∀ i, u8.ownBlock = some i → v1.heap.size ≤ i := fun i hi => by obtain ⟨k, e, h⟩ := n8; rw [e] at hi; injection hi with hi; subst hi; exact Nat.le_trans hh.size h
  replace hh := hh.trans (E.gbB l8)
  replace L := k8
  replace b1 := blk_below b1 l8
  replace b2 := blk_below b2 l8
  replace b3 := blk_below b3 l8
  refine E.GJ.one (i := 5) (by kernel_rfl) (E.OJ.st rfl rfl rfl rfl (E.ST.appendRows k55 w.heap.size (w0 := w) (s := .tmp 8) (x := .tmp 10) rfl hu27 info55 rfl (by decide) (by decide) rfl rfl r8 (Kd.C_below hM.rs L) made55 L L.size (by simp only [List.length_nil]; omega) fun u11 w11 r11 k11 g11 => ⟨(E.SJ.before (by kernel_rfl)).mpr (E.gb_row hh g11 hn8), ?_⟩))
  replace b1 := blk_grown b1 g11 (Kd.R_ne r8 b1 (by decide))
  replace b2 := blk_grown b2 g11 (Kd.R_ne r8 b2 (by decide))
  replace b3 := blk_grown b3 g11 (Kd.R_ne r8 b3 (by decide))
  replace hh := E.gb_row hh g11 hn8
  replace L := k11
  rw [List.nil_append] at r11
  obtain ⟨A11, c11, hv11⟩ := Kd.R_slice r11
  subst hv11
  refine E.GJ.take1 (i := 6) rfl (by kernel_rfl) (by kernel_rfl) (by kernel_rfl) (by kernel_rfl) rfl (by kernel_rfl) (by kernel_rfl) (by intro c a d v w h; first | (cases d <;> exact h) | exact nomatch (show _ ∧ _ from h).1) rfl rfl rfl (fun w' hS => (E.Runs.build rfl (E.epc rfl (E.epc rfl E.epn)) (build29c _ _ _ _))) ?_
  refine E.GJ.one (i := 8) (by kernel_rfl) (E.OJ.sn rfl rfl rfl (E.ST.storeS (off := 0) (cells := [.int .i64 V.tax, .slice none 0 0, .slice A11 V.rs.length c11]) rfl rfl rfl b3 rfl info29s (books_one _ _ _ _ _ _ _) rfl fun wS c3 lS => ⟨(E.SJ.behind (by kernel_rfl)).mpr trivial, ?_⟩))
  replace b1 := blk_grown b1 lS (E.nes n31)
  replace b2 := blk_grown b2 lS (E.nes n32)
  replace r11 := E.R_over r11 b3 (by decide) lS
  replace L := E.below_own L h3 lS
  replace b3 := c3
  refine E.GJ.done (by kernel_rfl) ?_
  refine E.qc (E.cs (E.cs (E.cl (E.ga rfl rfl rfl (E.gd (E.qc (E.CG.block ?_)))))))
  have s3_b1 := b1
  have s3_b2 := b2
  have s3_b3 := b3
  have s3_L := L
  refine E.CG.loop2 (fun (i : Nat) (v3 : Value) => [(1, .pointer (some ⟨g1, 0, none⟩)), (2, .pointer (some ⟨g2, 0, none⟩)), (3, .pointer (some ⟨g3, 0, none⟩)), (4, .int .i64 i)]) (fun i v3 w' => i ≤ V.cs.length ∧ w'.heap[g1]? = some (.cells #[.int .i64 V.tax, .slice m.A V.cs.length m.a, .slice m.B V.rs.length m.b] 29 (0, 0)) ∧ w'.heap[g2]? = some (.cells #[.int .i64 0, .slice none 0 0, .slice none 0 0] 29 (0, 0)) ∧ w'.heap[g3]? = some (.cells #[.int .i64 V.tax, v3, .slice A11 V.rs.length c11] 29 (0, 0)) ∧ Kd.R k36 36 w' w.heap.size (fun _ => True) v3 (V.cs.take i) ∧ Kd.R k55 55 w' w.heap.size (fun _ => True) (.slice A11 V.rs.length c11) V.rs ∧ Below w.heap.size w w') (fun i v3 => V.cs.length - i) 0 (.slice none 0 0) (E.subc rfl (E.subc rfl (E.subc rfl (E.subc rfl E.subn)))) ⟨Nat.zero_le _, b1, b2, b3, Kd.R_nil _ _ _ _ _, r11, L⟩ ?_
  rintro i v3 w3 ⟨hi, b1, b2, b3, hD, r11, L⟩
  refine E.cs (E.cs (E.cl (E.gm rfl rfl rfl (E.gr rfl (E.Runs.fieldAddr rfl rfl hu29 rfl (by assumption) rfl) ?_))))
  refine E.gr rfl (E.Runs.load1 rfl rfl hu26 rfl (by first | assumption | exact E.blkc (by assumption) rfl | exact pw_cell_below L (by assumption))) ?_
  refine E.gr rfl (E.Runs.len rfl rfl hu26) ?_
  refine E.GL.cmp rfl rfl rfl (fun _ h => (E.Runs.lss rfl rfl rfl h)) (fun h17 => ?_) (fun h17 => ?_)
  ·obtain ⟨c, hc⟩ := get_ex (show i < V.cs.length by omega)
   obtain ⟨ad, a3, k3, a4, k4, eA, hx0, X⟩ := con_at hM.cs hc
   have hc3 := hs.s c (mem_of hc)
   have hc4 := hs.t c (mem_of hc)
   have Kr := Below.refl w3.heap.size w3
   have hL3 := L.size
   have s5b1 := b1
   have s5b2 := b2
   have s5b3 := b3
   have s5hD := hD
   have s5r := r11
   have s5L := L
   refine E.gd (E.qc (E.CG.cond_t rfl (E.CG.skip (E.qc (E.cs (E.CG.block (E.cs (E.cl (E.gr rfl (E.Runs.fieldAddr rfl rfl hu29 rfl (by assumption) rfl) ?_)))))))))
   refine E.gr rfl (E.Runs.load1 rfl rfl hu26 rfl (by first | assumption | exact E.blkc (by assumption) rfl | exact pw_cell_below L (by assumption) | exact pw_cell_below Kr (by assumption))) ?_
   refine E.gm rfl rfl rfl (E.gr rfl (E.Runs.indexAddrA (i := i) rfl rfl rfl hu26 z36 o36 (by omega) eA rfl) ?_)
   refine E.gr rfl (E.Runs.loads (cs := [.int .i64 c.f0, .int .i64 c.f1, .int .i64 c.f2, .slice a3 c.f3.length k3, .slice a4 c.f4.length k4, .int .i64 c.f5, .int .i64 c.f6, .int .i64 c.f7, .int .i64 c.f8]) rfl rfl hu36 rfl info36s (fun j v hv => pw_cell_below L (X j v hv))) ?_
   refine E.GL.st rfl rfl rfl (E.ST.alloc rfl info36z fun g5 w5 e5 b5 l5 => ?_)
   have h5_L : w.heap.size ≤ g5 := by rw [e5]; exact L.size
   have h5_Kr : w3.heap.size ≤ g5 := by rw [e5]; exact Kr.size
   have n5_b1 : g1 ≠ g5 := by have := blk_lt b1; omega
   have n5_b2 : g2 ≠ g5 := by have := blk_lt b2; omega
   have n5_b3 : g3 ≠ g5 := by have := blk_lt b3; omega
   replace b1 := blk_below b1 l5
   replace b2 := blk_below b2 l5
   replace b3 := blk_below b3 l5
   replace L := below_step L l5
   replace Kr := below_step Kr l5
   refine E.GL.store_whole rfl rfl rfl rfl rfl b5 rfl info36s (con_one _ _ _ _ _ _ _ _ _ _ _ _ _) fun wS5_6 c5 lS5_6 => ?_
   replace b1 := blk_grown b1 lS5_6 (E.nes (by first | assumption | exact Ne.symm (by assumption)))
   replace b2 := blk_grown b2 lS5_6 (E.nes (by first | assumption | exact Ne.symm (by assumption)))
   replace b3 := blk_grown b3 lS5_6 (E.nes (by first | assumption | exact Ne.symm (by assumption)))
   replace L := E.below_own L h5_L lS5_6
   replace Kr := E.below_own Kr h5_Kr lS5_6
   replace b5 := c5
   clear c5
   refine E.gd (E.qc (E.cs (E.CG.heldJ 9 (fun v W => v.grownBy W none) (fun _ _ => True) (by kernel_rfl) (by kernel_rfl) (fun v => World.grownBy.refl _ _) fun v6 lD => ?_)))
   replace b1 := blk_below b1 lD
   replace b2 := blk_below b2 lD
   replace b3 := blk_below b3 lD
   replace b5 := blk_below b5 lD
   replace L := below_step L lD
   replace Kr := below_step Kr lD
   clear lD
   have hh : v6.grownBy v6 none := World.grownBy.refl _ _
   refine E.GJ.take1 (i := 1) rfl (by kernel_rfl) (by kernel_rfl) (by kernel_rfl) (by kernel_rfl) rfl (by kernel_rfl) (by kernel_rfl) (by intro c a d v w h; first | (cases d <;> exact h) | exact nomatch (show _ ∧ _ from h).1) rfl rfl rfl (fun w' hS => (E.Runs.fieldAddr rfl rfl hu36 rfl (by assumption) rfl)) ?_
   refine E.GJ.take1 (i := 2) rfl (by kernel_rfl) (by kernel_rfl) (by kernel_rfl) (by kernel_rfl) rfl (by kernel_rfl) (by kernel_rfl) (by intro c a d v w h; first | (cases d <;> exact h) | exact nomatch (show _ ∧ _ from h).1) rfl rfl rfl (fun w' hS => (E.Runs.load1 rfl rfl hu22 rfl (by first | exact E.keeps hS (E.blkc (by assumption) rfl) (by first | exact E.nen | exact E.nes (by assumption) | exact E.nes (Ne.symm (by assumption))) | exact pw_cell_below (below_step s_L (E.belowG hS)) (by assumption) | exact pw_cell_below (below_step s_Kr (E.belowG hS)) (by assumption)))) ?_
   refine E.GJ.take1 (i := 5) rfl (by kernel_rfl) (by kernel_rfl) (by kernel_rfl) (by kernel_rfl) rfl (by kernel_rfl) (by kernel_rfl) (by intro c a d v w h; first | (cases d <;> exact h) | exact nomatch (show _ ∧ _ from h).1) rfl rfl rfl (fun w' hS => (E.Runs.fieldAddr rfl rfl hu36 rfl (by assumption) rfl)) ?_
   refine E.GJ.take1 (i := 6) rfl (by kernel_rfl) (by kernel_rfl) (by kernel_rfl) (by kernel_rfl) rfl (by kernel_rfl) (by kernel_rfl) (by intro c a d v w h; first | (cases d <;> exact h) | exact nomatch (show _ ∧ _ from h).1) rfl rfl rfl (fun w' hS => (E.Runs.load1 rfl rfl hu34 rfl (by first | exact E.keeps hS (E.blkc (by assumption) rfl) (by first | exact E.nen | exact E.nes (by assumption) | exact E.nes (Ne.symm (by assumption))) | exact pw_cell_below (below_step s_L (E.belowG hS)) (by assumption) | exact pw_cell_below (below_step s_Kr (E.belowG hS)) (by assumption)))) ?_
   refine E.GJ.two (i := 0) (j := 4) (by kernel_rfl) ?_ ?_
   ·refine (E.OJ.st rfl rfl rfl rfl (E.ST.litAt kI w3.heap.size (w0 := w3) (ys := ([] : List Int)) (inner := []) rfl rfl E.epn lit22n (Reps.none _ _) Kr Kr.size (by simp) fun u25 w25 r25 k25 l25 n25 => ⟨(E.SJ.before (by kernel_rfl)).mpr (hh.trans (E.gbB l25)), ?_⟩))
    have hn25 : ∀ i, u25.ownBlock = some i → v6.heap.size ≤ i := fun i hi => by obtain ⟨k, e, h⟩ := n25; rw [e] at hi; injection hi with hi; subst hi; exact Nat.le_trans hh.size h
    replace hh := hh.trans (E.gbB l25)
    replace Kr := k25
    replace b5 := blk_below b5 l25
    refine E.GJ.two (i := 3) (j := 4) (by kernel_rfl) ?_ ?_
    ·refine (E.OJ.st rfl rfl rfl rfl (E.ST.appendRows kI w3.heap.size (w0 := w3) (s := .tmp 25) (x := .tmp 27) rfl hu22 info3 rfl (by decide) (by decide) rfl rfl r25 (Kd.C_below hx0.s (below_step s5L Kr)) made3 Kr Kr.size (by simp only [List.length_nil]; omega) fun u28 w28 R28 k28 g28 => ⟨(E.SJ.before (by kernel_rfl)).mpr (E.gb_row hh g28 hn25), ?_⟩))
     replace b5 := blk_grown b5 g28 (Kd.R_ne r25 b5 (by decide))
     replace hh := E.gb_row hh g28 hn25
     replace Kr := k28
     rw [List.nil_append] at R28
     obtain ⟨A28, c28, hv28⟩ := Kd.R_slice R28
     subst hv28
     refine E.GJ.take1 (i := 8) rfl (by kernel_rfl) (by kernel_rfl) (by kernel_rfl) (by kernel_rfl) rfl (by kernel_rfl) (by kernel_rfl) (by intro c a d v w h; first | (cases d <;> exact h) | exact nomatch (show _ ∧ _ from h).1) rfl rfl rfl (fun w' hS => (E.Runs.fieldAddr rfl rfl hu36 rfl (by assumption) rfl)) ?_
     refine E.GJ.one (i := 4) (by kernel_rfl) (E.OJ.st rfl rfl rfl rfl (E.ST.litAt k86 w3.heap.size (w0 := w3) (ys := ([] : List S86)) (inner := []) rfl rfl E.epn lit34n (Reps.none _ _) Kr Kr.size (by simp) fun u29 w29 r29 k29 l29 n29 => ⟨(E.SJ.before (by kernel_rfl)).mpr (hh.trans (E.gbB l29)), ?_⟩))
     have hn29 : ∀ i, u29.ownBlock = some i → v6.heap.size ≤ i := fun i hi => by obtain ⟨k, e, h⟩ := n29; rw [e] at hi; injection hi with hi; subst hi; exact Nat.le_trans hh.size h
     replace hh := hh.trans (E.gbB l29)
     replace Kr := k29
     replace b5 := blk_below b5 l29
     replace R28 := Kd.R_below R28 l29
     refine E.GJ.one (i := 7) (by kernel_rfl) (E.OJ.st rfl rfl rfl rfl (E.ST.appendRows k86 w3.heap.size (w0 := w3) (s := .tmp 29) (x := .tmp 31) rfl hu34 info86 rfl (by decide) (by decide) rfl rfl r29 (Kd.C_below hx0.t (below_step s5L Kr)) made86 Kr Kr.size (by simp only [List.length_nil]; omega) fun u32 w32 R32 k32 g32 => ⟨(E.SJ.before (by kernel_rfl)).mpr (E.gb_row hh g32 hn29), ?_⟩))
     replace b5 := blk_grown b5 g32 (Kd.R_ne r29 b5 (by decide))
     replace hh := E.gb_row hh g32 hn29
     replace Kr := k32
     rw [List.nil_append] at R32
     obtain ⟨A32, c32, hv32⟩ := Kd.R_slice R32
     subst hv32
     replace R28 := E.R_over' R28 r29 (by decide) g32
     refine E.GJ.one (i := 9) (by kernel_rfl) (E.OJ.sn rfl rfl rfl (E.ST.storeSl (cs := [.int .i64 c.f0, .int .i64 c.f1, .int .i64 c.f2, .slice a3 c.f3.length k3, .slice a4 c.f4.length k4, .int .i64 c.f5, .int .i64 c.f6, .int .i64 c.f7, .int .i64 c.f8]) (cs' := [.int .i64 c.f0, .int .i64 c.f1, .int .i64 c.f2, .slice A28 c.f3.length c28, .slice a4 c.f4.length k4, .int .i64 c.f5, .int .i64 c.f6, .int .i64 c.f7, .int .i64 c.f8]) rfl z22 o22 rfl rfl b5 rfl rfl fun wS9 c9 lS9 => ⟨(E.SJ.behind (by kernel_rfl)).mpr trivial, ?_⟩))
     replace R28 := E.R_over R28 b5 (by decide) lS9
     replace R32 := E.R_over R32 b5 (by decide) lS9
     replace Kr := E.below_own Kr h5_Kr lS9
     replace b5 := c9
     refine E.GJ.one (i := 10) (by kernel_rfl) (E.OJ.st rfl rfl rfl rfl (E.ST.reads (E.Runs.fieldAddr rfl rfl hu36 rfl (by assumption) rfl) ⟨(E.SJ.behind (by kernel_rfl)).mpr trivial, ?_⟩))
     refine E.GJ.one (i := 11) (by kernel_rfl) (E.OJ.sn rfl rfl rfl (E.ST.storeSl (cs := [.int .i64 c.f0, .int .i64 c.f1, .int .i64 c.f2, .slice A28 c.f3.length c28, .slice a4 c.f4.length k4, .int .i64 c.f5, .int .i64 c.f6, .int .i64 c.f7, .int .i64 c.f8]) (cs' := [.int .i64 c.f0, .int .i64 c.f1, .int .i64 c.f2, .slice A28 c.f3.length c28, .slice A32 c.f4.length c32, .int .i64 c.f5, .int .i64 c.f6, .int .i64 c.f7, .int .i64 c.f8]) rfl z34 o34 rfl rfl b5 rfl rfl fun wS11 c11_ lS11 => ⟨(E.SJ.behind (by kernel_rfl)).mpr trivial, ?_⟩))
     replace R28 := E.R_over R28 b5 (by decide) lS11
     replace R32 := E.R_over R32 b5 (by decide) lS11
     replace Kr := E.below_own Kr h5_Kr lS11
     replace b5 := c11_
     replace b1 := blk_below s5b1 Kr
     replace b2 := blk_below s5b2 Kr
     replace b3 := blk_below s5b3 Kr
     replace hD := Kd.R_below s5hD Kr
     replace r11 := Kd.R_below s5r Kr
     replace L := below_step s5L Kr
     refine E.GJ.done (by kernel_rfl) ?_
     refine E.qc (E.cl (E.gr rfl (E.Runs.fieldAddr rfl rfl hu29 rfl (by assumption) rfl) ?_))
     refine E.gr rfl (E.Runs.load1 rfl rfl hu26 rfl (by first | assumption | exact E.blkc (by assumption) rfl | exact pw_cell_below L (by assumption) | exact pw_cell_below Kr (by assumption))) ?_
     refine E.gr rfl (E.Runs.loads (cs := [.int .i64 c.f0, .int .i64 c.f1, .int .i64 c.f2, .slice A28 c.f3.length c28, .slice A32 c.f4.length c32, .int .i64 c.f5, .int .i64 c.f6, .int .i64 c.f7, .int .i64 c.f8]) rfl rfl hu36 rfl info36s (blk_cells b5)) ?_
     refine E.GL.st rfl rfl rfl (E.ST.lit rfl (E.epc rfl E.epn) (lit26_1 _ _ _ _ _ _ _ _ _ _ _ _ _) ?_)
     refine E.GL.st rfl rfl rfl (E.ST.appendR k36 w.heap.size (w0 := w) (s := .tmp 36) (x := .tmp 38) rfl hu26 info36 rfl (by decide) (by decide) c rfl rfl (k36_mkM _ _ _ c (E.apart_R (Kd.R_lower R28 hL3) hD (by decide)) (E.apart_R (Kd.R_lower R32 hL3) hD (by decide))) hD L L.size (by rw [List.length_take]; omega) fun u39 w39 r39 k39 gr39 at39 => ?_)
     replace b1 := blk_grown b1 gr39 (Kd.R_ne hD b1 (by decide))
     replace b2 := blk_grown b2 gr39 (Kd.R_ne hD b2 (by decide))
     replace b3 := blk_grown b3 gr39 (Kd.R_ne hD b3 (by decide))
     replace r11 := E.R_over' r11 hD (by decide) gr39
     replace L := k39
     replace hD := r39
     rw [E.take_snoc hc] at hD
     obtain ⟨D', d', hv39⟩ := Kd.R_slice hD
     rw [List.length_take, Nat.min_eq_left (show i + 1 ≤ V.cs.length by omega)] at hv39
     subst hv39
     refine E.gr rfl (E.Runs.fieldAddr rfl rfl hu29 rfl (by assumption) rfl) ?_
     refine E.GL.sn rfl rfl (E.ST.storeSl (cs := [.int .i64 V.tax, v3, .slice A11 V.rs.length c11]) (cs' := [.int .i64 V.tax, .slice D' (i + 1) d', .slice A11 V.rs.length c11]) rfl z26 o26 rfl rfl b3 rfl rfl fun wS7 c3 lS7 => ?_)
     replace b1 := blk_grown b1 lS7 (E.nes n31)
     replace b2 := blk_grown b2 lS7 (E.nes n32)
     replace hD := E.R_over hD b3 (by decide) lS7
     replace r11 := E.R_over r11 b3 (by decide) lS7
     replace L := E.below_own L h3 lS7
     replace b3 := c3
     refine E.gd (E.QG.block_normal (E.qc (E.cl (E.gm rfl rfl rfl (E.gr rfl (E.Runs.add rfl rfl rfl (IntWalk.i64_in _ (by omega))) ?_)))))
     refine E.ga rfl rfl rfl (E.gd ?_)
     exact E.QG.round2 (d := .slice none 0 0) (i + 1) _ (E.subc rfl (E.subc rfl (E.subc rfl (E.subc rfl E.subn)))) ⟨by omega, b1, b2, b3, hD, r11, L⟩ (by omega)
    ·refine (E.OJ.st rfl rfl rfl rfl (E.ST.litAt k86 w3.heap.size (w0 := w3) (ys := ([] : List S86)) (inner := []) rfl rfl E.epn lit34n (Reps.none _ _) Kr Kr.size (by simp) fun u29 w29 r29 k29 l29 n29 => ⟨(E.SJ.before (by kernel_rfl)).mpr (hh.trans (E.gbB l29)), ?_⟩))
     have hn29 : ∀ i, u29.ownBlock = some i → v6.heap.size ≤ i := fun i hi => by obtain ⟨k, e, h⟩ := n29; rw [e] at hi; injection hi with hi; subst hi; exact Nat.le_trans hh.size h
     replace hh := hh.trans (E.gbB l29)
     replace Kr := k29
     replace b5 := blk_below b5 l29
     replace r25 := Kd.R_below r25 l29
     refine E.GJ.one (i := 3) (by kernel_rfl) (E.OJ.st rfl rfl rfl rfl (E.ST.appendRows kI w3.heap.size (w0 := w3) (s := .tmp 25) (x := .tmp 27) rfl hu22 info3 rfl (by decide) (by decide) rfl rfl r25 (Kd.C_below hx0.s (below_step s5L Kr)) made3 Kr Kr.size (by simp only [List.length_nil]; omega) fun u28 w28 R28 k28 g28 => ⟨(E.SJ.before (by kernel_rfl)).mpr (E.gb_row hh g28 hn25), ?_⟩))
     replace b5 := blk_grown b5 g28 (Kd.R_ne r25 b5 (by decide))
     replace hh := E.gb_row hh g28 hn25
     replace Kr := k28
     rw [List.nil_append] at R28
     obtain ⟨A28, c28, hv28⟩ := Kd.R_slice R28
     subst hv28
     replace r29 := E.R_over' r29 r25 (by decide) g28
     refine E.GJ.take1 (i := 8) rfl (by kernel_rfl) (by kernel_rfl) (by kernel_rfl) (by kernel_rfl) rfl (by kernel_rfl) (by kernel_rfl) (by intro c a d v w h; first | (cases d <;> exact h) | exact nomatch (show _ ∧ _ from h).1) rfl rfl rfl (fun w' hS => (E.Runs.fieldAddr rfl rfl hu36 rfl (by assumption) rfl)) ?_
     refine E.GJ.one (i := 7) (by kernel_rfl) (E.OJ.st rfl rfl rfl rfl (E.ST.appendRows k86 w3.heap.size (w0 := w3) (s := .tmp 29) (x := .tmp 31) rfl hu34 info86 rfl (by decide) (by decide) rfl rfl r29 (Kd.C_below hx0.t (below_step s5L Kr)) made86 Kr Kr.size (by simp only [List.length_nil]; omega) fun u32 w32 R32 k32 g32 => ⟨(E.SJ.before (by kernel_rfl)).mpr (E.gb_row hh g32 hn29), ?_⟩))
     replace b5 := blk_grown b5 g32 (Kd.R_ne r29 b5 (by decide))
     replace hh := E.gb_row hh g32 hn29
     replace Kr := k32
     rw [List.nil_append] at R32
     obtain ⟨A32, c32, hv32⟩ := Kd.R_slice R32
     subst hv32
     replace R28 := E.R_over' R28 r29 (by decide) g32
     refine E.GJ.one (i := 9) (by kernel_rfl) (E.OJ.sn rfl rfl rfl (E.ST.storeSl (cs := [.int .i64 c.f0, .int .i64 c.f1, .int .i64 c.f2, .slice a3 c.f3.length k3, .slice a4 c.f4.length k4, .int .i64 c.f5, .int .i64 c.f6, .int .i64 c.f7, .int .i64 c.f8]) (cs' := [.int .i64 c.f0, .int .i64 c.f1, .int .i64 c.f2, .slice A28 c.f3.length c28, .slice a4 c.f4.length k4, .int .i64 c.f5, .int .i64 c.f6, .int .i64 c.f7, .int .i64 c.f8]) rfl z22 o22 rfl rfl b5 rfl rfl fun wS9 c9 lS9 => ⟨(E.SJ.behind (by kernel_rfl)).mpr trivial, ?_⟩))
     replace R28 := E.R_over R28 b5 (by decide) lS9
     replace R32 := E.R_over R32 b5 (by decide) lS9
     replace Kr := E.below_own Kr h5_Kr lS9
     replace b5 := c9
     refine E.GJ.one (i := 10) (by kernel_rfl) (E.OJ.st rfl rfl rfl rfl (E.ST.reads (E.Runs.fieldAddr rfl rfl hu36 rfl (by assumption) rfl) ⟨(E.SJ.behind (by kernel_rfl)).mpr trivial, ?_⟩))
     refine E.GJ.one (i := 11) (by kernel_rfl) (E.OJ.sn rfl rfl rfl (E.ST.storeSl (cs := [.int .i64 c.f0, .int .i64 c.f1, .int .i64 c.f2, .slice A28 c.f3.length c28, .slice a4 c.f4.length k4, .int .i64 c.f5, .int .i64 c.f6, .int .i64 c.f7, .int .i64 c.f8]) (cs' := [.int .i64 c.f0, .int .i64 c.f1, .int .i64 c.f2, .slice A28 c.f3.length c28, .slice A32 c.f4.length c32, .int .i64 c.f5, .int .i64 c.f6, .int .i64 c.f7, .int .i64 c.f8]) rfl z34 o34 rfl rfl b5 rfl rfl fun wS11 c11_ lS11 => ⟨(E.SJ.behind (by kernel_rfl)).mpr trivial, ?_⟩))
     replace R28 := E.R_over R28 b5 (by decide) lS11
     replace R32 := E.R_over R32 b5 (by decide) lS11
     replace Kr := E.below_own Kr h5_Kr lS11
     replace b5 := c11_
     replace b1 := blk_below s5b1 Kr
     replace b2 := blk_below s5b2 Kr
     replace b3 := blk_below s5b3 Kr
     replace hD := Kd.R_below s5hD Kr
     replace r11 := Kd.R_below s5r Kr
     replace L := below_step s5L Kr
     refine E.GJ.done (by kernel_rfl) ?_
     refine E.qc (E.cl (E.gr rfl (E.Runs.fieldAddr rfl rfl hu29 rfl (by assumption) rfl) ?_))
     refine E.gr rfl (E.Runs.load1 rfl rfl hu26 rfl (by first | assumption | exact E.blkc (by assumption) rfl | exact pw_cell_below L (by assumption) | exact pw_cell_below Kr (by assumption))) ?_
     refine E.gr rfl (E.Runs.loads (cs := [.int .i64 c.f0, .int .i64 c.f1, .int .i64 c.f2, .slice A28 c.f3.length c28, .slice A32 c.f4.length c32, .int .i64 c.f5, .int .i64 c.f6, .int .i64 c.f7, .int .i64 c.f8]) rfl rfl hu36 rfl info36s (blk_cells b5)) ?_
     refine E.GL.st rfl rfl rfl (E.ST.lit rfl (E.epc rfl E.epn) (lit26_1 _ _ _ _ _ _ _ _ _ _ _ _ _) ?_)
     refine E.GL.st rfl rfl rfl (E.ST.appendR k36 w.heap.size (w0 := w) (s := .tmp 36) (x := .tmp 38) rfl hu26 info36 rfl (by decide) (by decide) c rfl rfl (k36_mkM _ _ _ c (E.apart_R (Kd.R_lower R28 hL3) hD (by decide)) (E.apart_R (Kd.R_lower R32 hL3) hD (by decide))) hD L L.size (by rw [List.length_take]; omega) fun u39 w39 r39 k39 gr39 at39 => ?_)
     replace b1 := blk_grown b1 gr39 (Kd.R_ne hD b1 (by decide))
     replace b2 := blk_grown b2 gr39 (Kd.R_ne hD b2 (by decide))
     replace b3 := blk_grown b3 gr39 (Kd.R_ne hD b3 (by decide))
     replace r11 := E.R_over' r11 hD (by decide) gr39
     replace L := k39
     replace hD := r39
     rw [E.take_snoc hc] at hD
     obtain ⟨D', d', hv39⟩ := Kd.R_slice hD
     rw [List.length_take, Nat.min_eq_left (show i + 1 ≤ V.cs.length by omega)] at hv39
     subst hv39
     refine E.gr rfl (E.Runs.fieldAddr rfl rfl hu29 rfl (by assumption) rfl) ?_
     refine E.GL.sn rfl rfl (E.ST.storeSl (cs := [.int .i64 V.tax, v3, .slice A11 V.rs.length c11]) (cs' := [.int .i64 V.tax, .slice D' (i + 1) d', .slice A11 V.rs.length c11]) rfl z26 o26 rfl rfl b3 rfl rfl fun wS7 c3 lS7 => ?_)
     replace b1 := blk_grown b1 lS7 (E.nes n31)
     replace b2 := blk_grown b2 lS7 (E.nes n32)
     replace hD := E.R_over hD b3 (by decide) lS7
     replace r11 := E.R_over r11 b3 (by decide) lS7
     replace L := E.below_own L h3 lS7
     replace b3 := c3
     refine E.gd (E.QG.block_normal (E.qc (E.cl (E.gm rfl rfl rfl (E.gr rfl (E.Runs.add rfl rfl rfl (IntWalk.i64_in _ (by omega))) ?_)))))
     refine E.ga rfl rfl rfl (E.gd ?_)
     exact E.QG.round2 (d := .slice none 0 0) (i + 1) _ (E.subc rfl (E.subc rfl (E.subc rfl (E.subc rfl E.subn)))) ⟨by omega, b1, b2, b3, hD, r11, L⟩ (by omega)
   ·refine (E.OJ.st rfl rfl rfl rfl (E.ST.litAt k86 w3.heap.size (w0 := w3) (ys := ([] : List S86)) (inner := []) rfl rfl E.epn lit34n (Reps.none _ _) Kr Kr.size (by simp) fun u29 w29 r29 k29 l29 n29 => ⟨(E.SJ.before (by kernel_rfl)).mpr (hh.trans (E.gbB l29)), ?_⟩))
    have hn29 : ∀ i, u29.ownBlock = some i → v6.heap.size ≤ i := fun i hi => by obtain ⟨k, e, h⟩ := n29; rw [e] at hi; injection hi with hi; subst hi; exact Nat.le_trans hh.size h
    replace hh := hh.trans (E.gbB l29)
    replace Kr := k29
    replace b5 := blk_below b5 l29
    refine E.GJ.one (i := 0) (by kernel_rfl) (E.OJ.st rfl rfl rfl rfl (E.ST.litAt kI w3.heap.size (w0 := w3) (ys := ([] : List Int)) (inner := []) rfl rfl E.epn lit22n (Reps.none _ _) Kr Kr.size (by simp) fun u25 w25 r25 k25 l25 n25 => ⟨(E.SJ.before (by kernel_rfl)).mpr (hh.trans (E.gbB l25)), ?_⟩))
    have hn25 : ∀ i, u25.ownBlock = some i → v6.heap.size ≤ i := fun i hi => by obtain ⟨k, e, h⟩ := n25; rw [e] at hi; injection hi with hi; subst hi; exact Nat.le_trans hh.size h
    replace hh := hh.trans (E.gbB l25)
    replace Kr := k25
    replace b5 := blk_below b5 l25
    replace r29 := Kd.R_below r29 l25
    refine E.GJ.one (i := 3) (by kernel_rfl) (E.OJ.st rfl rfl rfl rfl (E.ST.appendRows kI w3.heap.size (w0 := w3) (s := .tmp 25) (x := .tmp 27) rfl hu22 info3 rfl (by decide) (by decide) rfl rfl r25 (Kd.C_below hx0.s (below_step s5L Kr)) made3 Kr Kr.size (by simp only [List.length_nil]; omega) fun u28 w28 R28 k28 g28 => ⟨(E.SJ.before (by kernel_rfl)).mpr (E.gb_row hh g28 hn25), ?_⟩))
    replace b5 := blk_grown b5 g28 (Kd.R_ne r25 b5 (by decide))
    replace hh := E.gb_row hh g28 hn25
    replace Kr := k28
    rw [List.nil_append] at R28
    obtain ⟨A28, c28, hv28⟩ := Kd.R_slice R28
    subst hv28
    replace r29 := E.R_over' r29 r25 (by decide) g28
    refine E.GJ.take1 (i := 8) rfl (by kernel_rfl) (by kernel_rfl) (by kernel_rfl) (by kernel_rfl) rfl (by kernel_rfl) (by kernel_rfl) (by intro c a d v w h; first | (cases d <;> exact h) | exact nomatch (show _ ∧ _ from h).1) rfl rfl rfl (fun w' hS => (E.Runs.fieldAddr rfl rfl hu36 rfl (by assumption) rfl)) ?_
    refine E.GJ.one (i := 7) (by kernel_rfl) (E.OJ.st rfl rfl rfl rfl (E.ST.appendRows k86 w3.heap.size (w0 := w3) (s := .tmp 29) (x := .tmp 31) rfl hu34 info86 rfl (by decide) (by decide) rfl rfl r29 (Kd.C_below hx0.t (below_step s5L Kr)) made86 Kr Kr.size (by simp only [List.length_nil]; omega) fun u32 w32 R32 k32 g32 => ⟨(E.SJ.before (by kernel_rfl)).mpr (E.gb_row hh g32 hn29), ?_⟩))
    replace b5 := blk_grown b5 g32 (Kd.R_ne r29 b5 (by decide))
    replace hh := E.gb_row hh g32 hn29
    replace Kr := k32
    rw [List.nil_append] at R32
    obtain ⟨A32, c32, hv32⟩ := Kd.R_slice R32
    subst hv32
    replace R28 := E.R_over' R28 r29 (by decide) g32
    refine E.GJ.one (i := 9) (by kernel_rfl) (E.OJ.sn rfl rfl rfl (E.ST.storeSl (cs := [.int .i64 c.f0, .int .i64 c.f1, .int .i64 c.f2, .slice a3 c.f3.length k3, .slice a4 c.f4.length k4, .int .i64 c.f5, .int .i64 c.f6, .int .i64 c.f7, .int .i64 c.f8]) (cs' := [.int .i64 c.f0, .int .i64 c.f1, .int .i64 c.f2, .slice A28 c.f3.length c28, .slice a4 c.f4.length k4, .int .i64 c.f5, .int .i64 c.f6, .int .i64 c.f7, .int .i64 c.f8]) rfl z22 o22 rfl rfl b5 rfl rfl fun wS9 c9 lS9 => ⟨(E.SJ.behind (by kernel_rfl)).mpr trivial, ?_⟩))
    replace R28 := E.R_over R28 b5 (by decide) lS9
    replace R32 := E.R_over R32 b5 (by decide) lS9
    replace Kr := E.below_own Kr h5_Kr lS9
    replace b5 := c9
    refine E.GJ.one (i := 10) (by kernel_rfl) (E.OJ.st rfl rfl rfl rfl (E.ST.reads (E.Runs.fieldAddr rfl rfl hu36 rfl (by assumption) rfl) ⟨(E.SJ.behind (by kernel_rfl)).mpr trivial, ?_⟩))
    refine E.GJ.one (i := 11) (by kernel_rfl) (E.OJ.sn rfl rfl rfl (E.ST.storeSl (cs := [.int .i64 c.f0, .int .i64 c.f1, .int .i64 c.f2, .slice A28 c.f3.length c28, .slice a4 c.f4.length k4, .int .i64 c.f5, .int .i64 c.f6, .int .i64 c.f7, .int .i64 c.f8]) (cs' := [.int .i64 c.f0, .int .i64 c.f1, .int .i64 c.f2, .slice A28 c.f3.length c28, .slice A32 c.f4.length c32, .int .i64 c.f5, .int .i64 c.f6, .int .i64 c.f7, .int .i64 c.f8]) rfl z34 o34 rfl rfl b5 rfl rfl fun wS11 c11_ lS11 => ⟨(E.SJ.behind (by kernel_rfl)).mpr trivial, ?_⟩))
    replace R28 := E.R_over R28 b5 (by decide) lS11
    replace R32 := E.R_over R32 b5 (by decide) lS11
    replace Kr := E.below_own Kr h5_Kr lS11
    replace b5 := c11_
    replace b1 := blk_below s5b1 Kr
    replace b2 := blk_below s5b2 Kr
    replace b3 := blk_below s5b3 Kr
    replace hD := Kd.R_below s5hD Kr
    replace r11 := Kd.R_below s5r Kr
    replace L := below_step s5L Kr
    refine E.GJ.done (by kernel_rfl) ?_
    refine E.qc (E.cl (E.gr rfl (E.Runs.fieldAddr rfl rfl hu29 rfl (by assumption) rfl) ?_))
    refine E.gr rfl (E.Runs.load1 rfl rfl hu26 rfl (by first | assumption | exact E.blkc (by assumption) rfl | exact pw_cell_below L (by assumption) | exact pw_cell_below Kr (by assumption))) ?_
    refine E.gr rfl (E.Runs.loads (cs := [.int .i64 c.f0, .int .i64 c.f1, .int .i64 c.f2, .slice A28 c.f3.length c28, .slice A32 c.f4.length c32, .int .i64 c.f5, .int .i64 c.f6, .int .i64 c.f7, .int .i64 c.f8]) rfl rfl hu36 rfl info36s (blk_cells b5)) ?_
    refine E.GL.st rfl rfl rfl (E.ST.lit rfl (E.epc rfl E.epn) (lit26_1 _ _ _ _ _ _ _ _ _ _ _ _ _) ?_)
    refine E.GL.st rfl rfl rfl (E.ST.appendR k36 w.heap.size (w0 := w) (s := .tmp 36) (x := .tmp 38) rfl hu26 info36 rfl (by decide) (by decide) c rfl rfl (k36_mkM _ _ _ c (E.apart_R (Kd.R_lower R28 hL3) hD (by decide)) (E.apart_R (Kd.R_lower R32 hL3) hD (by decide))) hD L L.size (by rw [List.length_take]; omega) fun u39 w39 r39 k39 gr39 at39 => ?_)
    replace b1 := blk_grown b1 gr39 (Kd.R_ne hD b1 (by decide))
    replace b2 := blk_grown b2 gr39 (Kd.R_ne hD b2 (by decide))
    replace b3 := blk_grown b3 gr39 (Kd.R_ne hD b3 (by decide))
    replace r11 := E.R_over' r11 hD (by decide) gr39
    replace L := k39
    replace hD := r39
    rw [E.take_snoc hc] at hD
    obtain ⟨D', d', hv39⟩ := Kd.R_slice hD
    rw [List.length_take, Nat.min_eq_left (show i + 1 ≤ V.cs.length by omega)] at hv39
    subst hv39
    refine E.gr rfl (E.Runs.fieldAddr rfl rfl hu29 rfl (by assumption) rfl) ?_
    refine E.GL.sn rfl rfl (E.ST.storeSl (cs := [.int .i64 V.tax, v3, .slice A11 V.rs.length c11]) (cs' := [.int .i64 V.tax, .slice D' (i + 1) d', .slice A11 V.rs.length c11]) rfl z26 o26 rfl rfl b3 rfl rfl fun wS7 c3 lS7 => ?_)
    replace b1 := blk_grown b1 lS7 (E.nes n31)
    replace b2 := blk_grown b2 lS7 (E.nes n32)
    replace hD := E.R_over hD b3 (by decide) lS7
    replace r11 := E.R_over r11 b3 (by decide) lS7
    replace L := E.below_own L h3 lS7
    replace b3 := c3
    refine E.gd (E.QG.block_normal (E.qc (E.cl (E.gm rfl rfl rfl (E.gr rfl (E.Runs.add rfl rfl rfl (IntWalk.i64_in _ (by omega))) ?_)))))
    refine E.ga rfl rfl rfl (E.gd ?_)
    exact E.QG.round2 (d := .slice none 0 0) (i + 1) _ (E.subc rfl (E.subc rfl (E.subc rfl (E.subc rfl E.subn)))) ⟨by omega, b1, b2, b3, hD, r11, L⟩ (by omega)
  ·obtain rfl : i = V.cs.length := by omega
   rw [List.take_length] at hD
   obtain ⟨D, d, rfl⟩ := Kd.R_slice hD
   refine E.gd (E.qc (E.CG.cond_f rfl (E.CG.exit (E.QG.pass_exit (E.QG.pass_exit (E.QG.block_here (E.qc (E.cs ?_))))))))
   have s8b2 := b2
   refine E.cl (E.gr rfl (E.Runs.loads (cs := [.int .i64 V.tax, .slice D V.cs.length d, .slice A11 V.rs.length c11]) rfl rfl hu29 rfl info29s (blk_cells b3)) ?_)
   refine E.GL.store_whole rfl rfl rfl rfl rfl b2 rfl info29s (books_one _ _ _ _ _ _ _) fun wS8_1 c2 lS8_1 => ?_
   replace b1 := blk_grown b1 lS8_1 (E.nes (by first | assumption | exact Ne.symm (by assumption)))
   replace b3 := blk_grown b3 lS8_1 (E.nes (by first | assumption | exact Ne.symm (by assumption)))
   replace L := E.below_own L h2_L lS8_1
   replace b2 := c2
   clear c2
   refine E.gd (E.qc (E.CG.ret ?_))
   exact E.QG.result_c rfl rfl b2 hu29 rfl info29s ⟨⟨D, d, A11, c11⟩, rfl, ⟨E.R_over hD s8b2 (by decide) lS8_1, E.R_over r11 s8b2 (by decide) lS8_1⟩, L⟩

end Go.Proofs.Ytkjefnlhhfpllaa.T
namespace Go.Proofs.Ytkjefnlhhfpllaa.T
open Go.RowKit Go.Proofs.YtkjefnlhhfpllaaW.PrintWords Go.Proofs.YtkjefnlhhfpllaaW.PrintMore
open Go.Proofs.Ytkjefnlhhfpllaa.P
set_option linter.unusedVariables false
set_option linter.unusedSimpArgs false
theorem flat_get {α β : Type} {f : α → List β} {k : Nat} (hk : ∀ x, (f x).length = k) : ∀ (l : List α) (j : Nat) (x : α) (i : Nat), l[j]? = some x → i < k → (l.flatMap f)[j * k + i]? = (f x)[i]?
 | [], j, x, i, h, _ => by simp at h
 | y :: r, 0, x, i, h, hi => by
  simp at h
  subst h
  rw [List.flatMap_cons, Nat.zero_mul, Nat.zero_add, List.getElem?_append_left (by rw [hk]; exact hi)]
 | y :: r, j + 1, x, i, h, hi => by
  rw [List.getElem?_cons_succ] at h
  rw [List.flatMap_cons, List.getElem?_append_right (by rw [hk, Nat.add_mul]; omega), hk, show (j + 1) * k + i - k = j * k + i by rw [Nat.add_mul]; omega]
  exact flat_get hk r j x i h hi
/-- A row that lies in one block. -/
theorem C_flat {α : Type} {d : Kd α} {ce : α → List Value} (mk : ∀ w x, d.K w x (ce x)) (hl : ∀ x, (ce x).length = d.sz) {w : World} {g t : Nat} (l : List α) (hb : w.heap[g]? = some (.cells (l.flatMap ce).toArray t (0, 0))) (hn : l.length ≤ 1000000) : Kd.C d w (some ⟨g, 0, none⟩) l.length l := by
 refine ⟨rfl, by omega, fun _ => ⟨_, rfl, fun j x hx => ⟨ce x, hl x, mk w x, fun i u hu => ?_⟩⟩⟩
 have hi := get_lt hu
 rw [hl] at hi
 rw [Addr.add_mid, Nat.zero_add, blk_cell hb, List.getElem?_toArray, flat_get hl l j x i hx hi]
 exact hu
def onB : List S55 → Bool
 | x :: y :: r => (!decide (y.f0 = x.f0) || decide (y = x)) && onB (y :: r)
 | _ => true
theorem on_of : ∀ {l : List S55}, onB l = true → OnOk l
 | [], _ => fun j x y h => by simp at h
 | [z], _ => fun j x y _ h => by simp at h
 | z :: z' :: r, h => by
  unfold onB at h
  rw [Bool.and_eq_true] at h
  intro j x y hx hy e
  cases j with
  | zero =>
   simp at hx hy
   subst hx
   subst hy
   simpa [e] using h.1
  | succ j => exact on_of h.2 j x y hx hy e
/-! ### The example -/
def eC : S36 := ⟨5, 10, 12, [600, 500], [⟨20000, 700⟩], 8000, 900, 3000, 40000⟩
def eR : List S55 := [⟨1, 1, 5, 10, 0, 20000⟩, ⟨2, 1, 5, 10, 1, 10000⟩, ⟨3, 1, 5, 11, 0, 5000⟩, ⟨4, 1, 5, 11, 0, 4000⟩, ⟨5, 2, 5, 12, 0, 10001⟩]
def eB : Bk := ⟨100, [eC], eR⟩
theorem dis_one (c : S36) : Dis [c] := fun i j a b h h1 h2 => by
 have := get_lt h2
 simp at this
 omega
theorem eB_ok : BOk eB := ⟨⟨by decide, by decide⟩, by decide, fun x hx => by
 obtain rfl : x = eC := by simpa [eB] using hx
 exact ⟨by unfold CNum inR eC; decide, by unfold AllR eC; decide, fun i t h => by
  match i, h with
  | 0, h => simp [eC] at h; subst h; exact ⟨⟨by decide, by decide⟩, ⟨by decide, by decide⟩, fun j s e => by omega⟩
  | i + 1, h => simp [eC] at h⟩, dis_one eC⟩
theorem eB_rs : RsOk eB := ⟨by decide, by decide, fun x hx => by
 have hx : x = ⟨1, 1, 5, 10, 0, 20000⟩ ∨ x = ⟨2, 1, 5, 10, 1, 10000⟩ ∨ x = ⟨3, 1, 5, 11, 0, 5000⟩ ∨ x = ⟨4, 1, 5, 11, 0, 4000⟩ ∨ x = ⟨5, 2, 5, 12, 0, 10001⟩ := by simpa [eB, eR] using hx
 have hw : ∀ c ∈ eB.cs, c.f0 = x.f2 → inR x.f3 c.f1 c.f2 := fun c hc _ => by
  obtain rfl : c = eC := by simpa [eB] using hc
  rcases hx with rfl | rfl | rfl | rfl | rfl <;> exact ⟨by decide, by decide⟩
 refine ⟨⟨eC, by simp [eB], ?_⟩, hw, ?_⟩
 ·rcases hx with rfl | rfl | rfl | rfl | rfl <;> rfl
 ·rcases hx with rfl | rfl | rfl | rfl | rfl <;> exact ⟨⟨by decide, by decide⟩, ⟨by decide, by decide⟩, ⟨by decide, by decide⟩, by decide, by decide⟩, on_of (by decide +kernel)⟩
theorem eB_acc : accV eB.tax eC 11 (grossV eB.rs eC.f0 11) = ⟨4000, 400, 3600, 3000, 600, 3⟩ := by decide +kernel
/-! ### The reports of the tills -/
section
variable (F W a b c d : Int)
def tR : List S55 := [⟨3, 1, F, W, 0, a⟩, ⟨2, 1, F, W, 1, b⟩, ⟨1, 1, F, W, 2, c⟩]
def tA : List S55 := [⟨2, 1, F, W, 1, b⟩, ⟨1, 1, F, W, 2, c⟩, ⟨3, 1, F, W, 0, a⟩, ⟨1, 1, F, W, 2, c⟩]
def tU : List S55 := [⟨3, 1, F, W, 0, a⟩, ⟨2, 1, F, W, 1, b⟩, ⟨1, 1, F, W, 2, c⟩, ⟨4, 2, F, W, 0, d⟩]
theorem srt_tR : srt (tR F W a b c) = [⟨1, 1, F, W, 2, c⟩, ⟨2, 1, F, W, 1, b⟩, ⟨3, 1, F, W, 0, a⟩] := rfl
theorem srt_tA : srt (tA F W a b c) = [⟨1, 1, F, W, 2, c⟩, ⟨1, 1, F, W, 2, c⟩, ⟨2, 1, F, W, 1, b⟩, ⟨3, 1, F, W, 0, a⟩] := rfl
theorem srt_tU : srt (tU F W a b c d) = [⟨1, 1, F, W, 2, c⟩, ⟨2, 1, F, W, 1, b⟩, ⟨3, 1, F, W, 0, a⟩, ⟨4, 2, F, W, 0, d⟩] := rfl
theorem gro_tR : grossV (tR F W a b c) F W = a + b + c := by
 unfold grossV
 rw [srt_tR]
 simp [cpt, cgo, fG, stG, groG, tsum, cen, E.upd]
theorem gro_tA : grossV (tA F W a b c) F W = a + b + c := by
 unfold grossV
 rw [srt_tA]
 simp [cpt, cgo, fG, stG, groG, tsum, cen, E.upd]
theorem gro_tU : grossV (tU F W a b c d) F W = d := by
 unfold grossV
 rw [srt_tU]
 simp [cpt, cgo, fG, stG, groG, tsum, cen, E.upd]
end
/-- Reports for one film and week, of valid contracts. -/
theorem rs_of {tax : Int} {cs : List S36} {c : S36} {l : List S55} {W : Int} (hd : Dis cs) (hc : c ∈ cs) (hw : inR W c.f1 c.f2) (h0 : 0 < l.length) (hn : l.length ≤ 19) (h : ∀ x ∈ l, x.f2 = c.f0 ∧ x.f3 = W ∧ inR x.f0 0 99 ∧ inR x.f1 1 2 ∧ inR x.f4 0 9 ∧ inR x.f5 0 10000000) (ho : OnOk (srt l)) : RsOk ⟨tax, cs, l⟩ :=
 ⟨h0, hn, fun x hx => by
  obtain ⟨h1, h2, h3⟩ := h x hx
  exact ⟨⟨c, hc, h1.symm⟩, fun d hd' e => by
   obtain rfl := dis_eq hd hd' hc (e.trans h1)
   rw [h2]
   exact hw, h3⟩, ho⟩
theorem rs_tR {tax : Int} {cs : List S36} {c : S36} {W a b d : Int} (hd : Dis cs) (hc : c ∈ cs) (hw : inR W c.f1 c.f2) (ha : inR a 0 10000000) (hb : inR b 0 10000000) (hc' : inR d 0 10000000) : RsOk ⟨tax, cs, tR c.f0 W a b d⟩ :=
 rs_of hd hc hw (by simp [tR]) (by simp [tR]) (fun x hx => by
  have hx : x = ⟨3, 1, c.f0, W, 0, a⟩ ∨ x = ⟨2, 1, c.f0, W, 1, b⟩ ∨ x = ⟨1, 1, c.f0, W, 2, d⟩ := by simpa [tR] using hx
  rcases hx with rfl | rfl | rfl <;> exact ⟨rfl, rfl, ⟨by dsimp only; omega, by dsimp only; omega⟩, ⟨by dsimp only; omega, by dsimp only; omega⟩, ⟨by dsimp only; omega, by dsimp only; omega⟩, by assumption⟩) (by rw [srt_tR]; exact on_of (by simp [onB]))
theorem rs_tA {tax : Int} {cs : List S36} {c : S36} {W a b d : Int} (hd : Dis cs) (hc : c ∈ cs) (hw : inR W c.f1 c.f2) (ha : inR a 0 10000000) (hb : inR b 0 10000000) (hc' : inR d 0 10000000) : RsOk ⟨tax, cs, tA c.f0 W a b d⟩ :=
 rs_of hd hc hw (by simp [tA]) (by simp [tA]) (fun x hx => by
  have hx : x = ⟨2, 1, c.f0, W, 1, b⟩ ∨ x = ⟨1, 1, c.f0, W, 2, d⟩ ∨ x = ⟨3, 1, c.f0, W, 0, a⟩ ∨ x = ⟨1, 1, c.f0, W, 2, d⟩ := by simpa [tA] using hx
  rcases hx with rfl | rfl | rfl | rfl <;> exact ⟨rfl, rfl, ⟨by dsimp only; omega, by dsimp only; omega⟩, ⟨by dsimp only; omega, by dsimp only; omega⟩, ⟨by dsimp only; omega, by dsimp only; omega⟩, by assumption⟩) (by rw [srt_tA]; exact on_of (by simp [onB]))
theorem rs_tU {tax : Int} {cs : List S36} {c : S36} {W a b d u : Int} (hd : Dis cs) (hc : c ∈ cs) (hw : inR W c.f1 c.f2) (ha : inR a 0 10000000) (hb : inR b 0 10000000) (hc' : inR d 0 10000000) (hu : inR u 0 10000000) : RsOk ⟨tax, cs, tU c.f0 W a b d u⟩ :=
 rs_of hd hc hw (by simp [tU]) (by simp [tU]) (fun x hx => by
  have hx : x = ⟨3, 1, c.f0, W, 0, a⟩ ∨ x = ⟨2, 1, c.f0, W, 1, b⟩ ∨ x = ⟨1, 1, c.f0, W, 2, d⟩ ∨ x = ⟨4, 2, c.f0, W, 0, u⟩ := by simpa [tU] using hx
  rcases hx with rfl | rfl | rfl | rfl <;> exact ⟨rfl, rfl, ⟨by dsimp only; omega, by dsimp only; omega⟩, ⟨by dsimp only; omega, by dsimp only; omega⟩, ⟨by dsimp only; omega, by dsimp only; omega⟩, by assumption⟩) (by rw [srt_tU]; exact on_of (by simp [onB]))
end Go.Proofs.Ytkjefnlhhfpllaa.T
namespace Go.Proofs.Ytkjefnlhhfpllaa.T
open Go.RowKit Go.Proofs.YtkjefnlhhfpllaaW.PrintWords Go.Proofs.YtkjefnlhhfpllaaW.PrintMore
open Go.Proofs.Ytkjefnlhhfpllaa.P
set_option linter.unusedVariables false
set_option linter.unusedSimpArgs false

set_option maxRecDepth 100000 in
theorem lit22_2 (a b : Int) (W : World) : (Instr.buildSlice 22 2 #[(0, .int .i64 a), (1, .int .i64 b)]).run Try.prog W = .ok (.slice (some ⟨W.heap.size, 0, none⟩) 2 2) (W.alloc (.cells (([a, b] : List Int).map (Value.int .i64)).toArray 3 (0, 0))) := by
 have hu3 := Try.underlying3
 have hu22 := Try.underlying22
 go_simp
set_option maxRecDepth 100000 in
theorem build86 (a b : Int) (W : World) : (Instr.build 86 #[(0, .int .i64 a), (1, .int .i64 b)]).run Try.prog W = .ok (.agg #[.int .i64 a, .int .i64 b]) W := by
 have hu3 := Try.underlying3
 have hu86 := Try.underlying86
 go_simp
set_option maxRecDepth 100000 in
theorem lit34_1 (a b : Int) (W : World) : (Instr.buildSlice 34 1 #[(0, .agg #[.int .i64 a, .int .i64 b])]).run Try.prog W = .ok (.slice (some ⟨W.heap.size, 0, none⟩) 1 1) (W.alloc (.cells (([⟨a, b⟩] : List S86).flatMap tC).toArray 86 (0, 0))) := by
 have hu3 := Try.underlying3
 have hu34 := Try.underlying34
 have hu86 := Try.underlying86
 go_simp
set_option maxRecDepth 100000 in
theorem build36f (x0 x1 x2 : Int) (a b : Option Addr) (n k m l : Nat) (x5 x6 x7 x8 : Int) (W : World) : (Instr.build 36 #[(0, .int .i64 x0), (1, .int .i64 x1), (2, .int .i64 x2), (3, .slice a n k), (4, .slice b m l), (5, .int .i64 x5), (6, .int .i64 x6), (7, .int .i64 x7), (8, .int .i64 x8)]).run Try.prog W = .ok (.agg #[.int .i64 x0, .int .i64 x1, .int .i64 x2, .slice a n k, .slice b m l, .int .i64 x5, .int .i64 x6, .int .i64 x7, .int .i64 x8]) W := by
 have hu3 := Try.underlying3
 have hu22 := Try.underlying22
 have hu34 := Try.underlying34
 have hu36 := Try.underlying36
 go_simp
set_option maxRecDepth 100000 in
theorem build55f (a b c d e f : Int) (W : World) : (Instr.build 55 #[(0, .int .i64 a), (1, .int .i64 b), (2, .int .i64 c), (3, .int .i64 d), (4, .int .i64 e), (5, .int .i64 f)]).run Try.prog W = .ok (.agg #[.int .i64 a, .int .i64 b, .int .i64 c, .int .i64 d, .int .i64 e, .int .i64 f]) W := by
 have hu3 := Try.underlying3
 have hu55 := Try.underlying55
 go_simp
set_option maxRecDepth 100000 in
theorem build55e (a b c d f : Int) (W : World) : (Instr.build 55 #[(0, .int .i64 a), (1, .int .i64 b), (2, .int .i64 c), (3, .int .i64 d), (5, .int .i64 f)]).run Try.prog W = .ok (.agg #[.int .i64 a, .int .i64 b, .int .i64 c, .int .i64 d, .int .i64 0, .int .i64 f]) W := by
 have hu3 := Try.underlying3
 have hu55 := Try.underlying55
 go_simp
set_option maxRecDepth 100000 in
theorem build29f (t : Int) (A B : Option Addr) (n c m d : Nat) (W : World) : (Instr.build 29 #[(0, .int .i64 t), (1, .slice A n c), (2, .slice B m d)]).run Try.prog W = .ok (.agg #[.int .i64 t, .slice A n c, .slice B m d]) W := by
 have hu3 := Try.underlying3
 have hu26 := Try.underlying26
 have hu27 := Try.underlying27
 have hu29 := Try.underlying29
 go_simp
set_option maxRecDepth 100000 in
theorem lit27_5 (x y z u v : S55) (W : World) : (Instr.buildSlice 27 5 #[(0, .agg #[.int .i64 x.f0, .int .i64 x.f1, .int .i64 x.f2, .int .i64 x.f3, .int .i64 x.f4, .int .i64 x.f5]), (1, .agg #[.int .i64 y.f0, .int .i64 y.f1, .int .i64 y.f2, .int .i64 y.f3, .int .i64 y.f4, .int .i64 y.f5]), (2, .agg #[.int .i64 z.f0, .int .i64 z.f1, .int .i64 z.f2, .int .i64 z.f3, .int .i64 z.f4, .int .i64 z.f5]), (3, .agg #[.int .i64 u.f0, .int .i64 u.f1, .int .i64 u.f2, .int .i64 u.f3, .int .i64 u.f4, .int .i64 u.f5]), (4, .agg #[.int .i64 v.f0, .int .i64 v.f1, .int .i64 v.f2, .int .i64 v.f3, .int .i64 v.f4, .int .i64 v.f5])]).run Try.prog W = .ok (.slice (some ⟨W.heap.size, 0, none⟩) 5 5) (W.alloc (.cells ([x, y, z, u, v].flatMap rC).toArray 55 (0, 0))) := by
 have hu3 := Try.underlying3
 have hu27 := Try.underlying27
 have hu55 := Try.underlying55
 go_simp
theorem C_con {w : World} {g t : Nat} {x : S36} {a b : Option Addr} {k l : Nat} (hM : CM w x a k b l) (hb : w.heap[g]? = some (.cells (cC x a k b l).toArray t (0, 0))) : Kd.C k36 w (some ⟨g, 0, none⟩) 1 [x] := by
 refine ⟨rfl, by omega, fun _ => ⟨_, rfl, ?_⟩⟩
 intro j p hj
 rcases j with _ | j
 ·obtain rfl : x = p := by simpa using hj
  refine ⟨cC x a k b l, rfl, k36_mk w x hM.sk hM.s hM.tk hM.t, fun i u hu => ?_⟩
  rw [Addr.add_mid, Nat.zero_add, blk_cell hb, List.getElem?_toArray, Nat.zero_mul, Nat.zero_add]
  exact hu
 ·simp at hj
set_option maxRecDepth 100000 in
set_option maxHeartbeats 8000000 in

theorem example8_calls (w : World) :
  Calls Try.prog 19 #[] w fun e w' => ∃ m, e = .returned (bv eB m) ∧ BM w' eB m ∧ eB.cs.length ≤ m.a ∧ Below w.heap.size w w' := by
 have hu29 := Try.underlying29
 refine E.enter (N := 13) Try.func19 rfl Try.ntmps19 (args := []) (by simp) ?_
 have L := Below.refl w.heap.size w
 refine E.cs (E.cl ?_)
 refine E.GL.st rfl rfl rfl (E.ST.alloc rfl info29z fun g0 w0 e0 b0 l0 => ?_)
 have h0_L : w.heap.size ≤ g0 := by rw [e0]; exact L.size
 replace L := below_step L l0
 refine E.gd (E.qc (E.cs (E.cl ?_)))
 refine E.GL.st rfl rfl rfl (E.ST.litB (cs := (([600, 500] : List Int).map (Value.int .i64)).toArray) rfl (E.epc rfl (E.epc rfl E.epn)) (lit22_2 _ _) fun g1 w1 e1 b1 l1 => ?_)
 have h1_L : w.heap.size ≤ g1 := by rw [e1]; exact L.size
 have n1_b0 : g0 ≠ g1 := by have := blk_lt b0; omega
 replace b0 := blk_below b0 l1
 replace L := below_step L l1
 refine E.gr rfl (E.Runs.build rfl (E.epc rfl (E.epc rfl E.epn)) (build86 _ _)) ?_
 refine E.GL.st rfl rfl rfl (E.ST.litB (cs := (([⟨20000, 700⟩] : List S86).flatMap tC).toArray) rfl (E.epc rfl E.epn) (lit34_1 _ _) fun g3 w3 e3 b3 l3 => ?_)
 have h3_L : w.heap.size ≤ g3 := by rw [e3]; exact L.size
 have n3_b0 : g0 ≠ g3 := by have := blk_lt b0; omega
 have n3_b1 : g1 ≠ g3 := by have := blk_lt b1; omega
 replace b0 := blk_below b0 l3
 replace b1 := blk_below b1 l3
 replace L := below_step L l3
 refine E.gr rfl (E.Runs.build rfl (E.epc rfl (E.epc rfl (E.epc rfl (E.epc rfl (E.epc rfl (E.epc rfl (E.epc rfl (E.epc rfl (E.epc rfl E.epn))))))))) (build36f _ _ _ _ _ _ _ _ _ _ _ _ _)) ?_
 refine E.GL.st rfl rfl rfl (E.ST.litB (cs := (cC eC (some ⟨g1, 0, none⟩) 2 (some ⟨g3, 0, none⟩) 1).toArray) rfl (E.epc rfl E.epn) (lit26_1 _ _ _ _ _ _ _ _ _ _ _ _ _) fun g5 w5 e5 b5 l5 => ?_)
 have h5_L : w.heap.size ≤ g5 := by rw [e5]; exact L.size
 have n5_b0 : g0 ≠ g5 := by have := blk_lt b0; omega
 have n5_b1 : g1 ≠ g5 := by have := blk_lt b1; omega
 have n5_b3 : g3 ≠ g5 := by have := blk_lt b3; omega
 replace b0 := blk_below b0 l5
 replace b1 := blk_below b1 l5
 replace b3 := blk_below b3 l5
 replace L := below_step L l5
 refine E.gr rfl (E.Runs.build rfl (E.epc rfl (E.epc rfl (E.epc rfl (E.epc rfl (E.epc rfl E.epn))))) (build55e _ _ _ _ _)) ?_
 refine E.gr rfl (E.Runs.build rfl (E.epc rfl (E.epc rfl (E.epc rfl (E.epc rfl (E.epc rfl (E.epc rfl E.epn)))))) (build55f _ _ _ _ _ _)) ?_
 refine E.gr rfl (E.Runs.build rfl (E.epc rfl (E.epc rfl (E.epc rfl (E.epc rfl (E.epc rfl E.epn))))) (build55e _ _ _ _ _)) ?_
 refine E.gr rfl (E.Runs.build rfl (E.epc rfl (E.epc rfl (E.epc rfl (E.epc rfl (E.epc rfl E.epn))))) (build55e _ _ _ _ _)) ?_
 refine E.gr rfl (E.Runs.build rfl (E.epc rfl (E.epc rfl (E.epc rfl (E.epc rfl (E.epc rfl E.epn))))) (build55e _ _ _ _ _)) ?_
 refine E.GL.st rfl rfl rfl (E.ST.litB (cs := (eR.flatMap rC).toArray) rfl (E.epc rfl (E.epc rfl (E.epc rfl (E.epc rfl (E.epc rfl E.epn))))) (lit27_5 ⟨1, 1, 5, 10, 0, 20000⟩ ⟨2, 1, 5, 10, 1, 10000⟩ ⟨3, 1, 5, 11, 0, 5000⟩ ⟨4, 1, 5, 11, 0, 4000⟩ ⟨5, 2, 5, 12, 0, 10001⟩) fun g11 w11 e11 b11 l11 => ?_)
 have h11_L : w.heap.size ≤ g11 := by rw [e11]; exact L.size
 have n11_b0 : g0 ≠ g11 := by have := blk_lt b0; omega
 have n11_b1 : g1 ≠ g11 := by have := blk_lt b1; omega
 have n11_b3 : g3 ≠ g11 := by have := blk_lt b3; omega
 have n11_b5 : g5 ≠ g11 := by have := blk_lt b5; omega
 replace b0 := blk_below b0 l11
 replace b1 := blk_below b1 l11
 replace b3 := blk_below b3 l11
 replace b5 := blk_below b5 l11
 replace L := below_step L l11
 refine E.gr rfl (E.Runs.build rfl (E.epc rfl (E.epc rfl (E.epc rfl E.epn))) (build29f _ _ _ _ _ _ _)) ?_
 refine E.GL.store_whole rfl rfl rfl rfl rfl b0 rfl info29s (books_one _ _ _ _ _ _ _) fun wS1_12 c0 lS1_12 => ?_
 replace b1 := blk_grown b1 lS1_12 (E.nes (by first | assumption | exact Ne.symm (by assumption)))
 replace b3 := blk_grown b3 lS1_12 (E.nes (by first | assumption | exact Ne.symm (by assumption)))
 replace b5 := blk_grown b5 lS1_12 (E.nes (by first | assumption | exact Ne.symm (by assumption)))
 replace b11 := blk_grown b11 lS1_12 (E.nes (by first | assumption | exact Ne.symm (by assumption)))
 replace L := E.below_own L h0_L lS1_12
 replace b0 := c0
 clear c0
 refine E.gd (E.qc (E.CG.ret ?_))
 exact E.QG.result_c rfl rfl b0 hu29 rfl info29s ⟨⟨some ⟨g5, 0, none⟩, 1, some ⟨g11, 0, none⟩, 5⟩, rfl, ⟨C_con ⟨C_nums [600, 500] b1 (by decide), C_flat k86_mk (fun _ => rfl) [⟨20000, 700⟩] b3 (by decide), Nat.le_refl _, Nat.le_refl _⟩ b5, C_flat k55_mk (fun _ => rfl) eR b11 (by decide)⟩, Nat.le_refl _, L⟩

end Go.Proofs.Ytkjefnlhhfpllaa.T
namespace Go.Proofs.Ytkjefnlhhfpllaa.T
open Go.RowKit Go.Proofs.YtkjefnlhhfpllaaW.PrintWords Go.Proofs.YtkjefnlhhfpllaaW.PrintMore
open Go.Proofs.Ytkjefnlhhfpllaa.P
set_option linter.unusedVariables false
set_option linter.unusedSimpArgs false

theorem all_moreI {α : Type} {p : Nat → α → Prop} {l : List α} {n : Nat} {g : α} (h : ∀ k, k < n → ∀ x, l[k]? = some x → p k x) (hg : l[n]? = some g) (k : p n g) : ∀ k, k < n + 1 → ∀ x, l[k]? = some x → p k x := by
 intro j hj x hx
 by_cases e : j = n
 ·subst e
  rw [hg] at hx
  cases hx
  exact k
 ·exact h j (by omega) x hx
set_option maxRecDepth 100000 in
set_option maxHeartbeats 8000000 in

theorem isContract_r (x : S36) (a3 a4 : Option Addr) (k3 k4 : Nat) (w : World) (hM : CM w x a3 k3 a4 k4) (hs3 : x.f3.length ≤ 1000000) (hs4 : x.f4.length ≤ 1000000) :
  Calls Try.prog 27 #[.agg #[.int .i64 x.f0, .int .i64 x.f1, .int .i64 x.f2, .slice a3 x.f3.length k3, .slice a4 x.f4.length k4, .int .i64 x.f5, .int .i64 x.f6, .int .i64 x.f7, .int .i64 x.f8]] w fun e w' => ∃ r, e = .returned (.bool r) ∧ (r = true → COk x) ∧ Below w.heap.size w w' := by
 have hu3 := Try.underlying3
 have hu22 := Try.underlying22
 have hu34 := Try.underlying34
 have hu36 := Try.underlying36
 have hu86 := Try.underlying86
 obtain ⟨z3, o3⟩ := info_some info3s (by decide)
 obtain ⟨z22, o22⟩ := info_some info22s (by decide)
 obtain ⟨z34, o34⟩ := info_some info34s (by decide)
 obtain ⟨z36, o36⟩ := info_some info36s (by decide)
 obtain ⟨z86, o86⟩ := info_some info86s (by decide)
 refine E.enter (N := 122) Try.func27 rfl Try.ntmps27 (args := [.agg #[.int .i64 x.f0, .int .i64 x.f1, .int .i64 x.f2, .slice a3 x.f3.length k3, .slice a4 x.f4.length k4, .int .i64 x.f5, .int .i64 x.f6, .int .i64 x.f7, .int .i64 x.f8]]) (by simp) ?_
 have L := Below.refl w.heap.size w
 refine E.cs (E.cl ?_)
 refine E.GL.st rfl rfl rfl (E.ST.box rfl rfl fun g1 w1 e1 b1 l1 => ?_)
 have h1_L : w.heap.size ≤ g1 := by rw [e1]; exact L.size
 replace L := below_step L l1
 refine E.ga rfl rfl rfl (E.gd (E.qc (E.cs (E.cs (E.cl (E.gr rfl (E.Runs.fieldAddr rfl rfl hu36 rfl (by assumption) rfl) ?_))))))
 refine E.gr rfl (E.Runs.load rfl rfl hu3 (by first | assumption | exact E.blkc (by assumption) rfl | exact pw_cell_below L (by assumption))) ?_
 by_cases h7 : inR x.f0 0 99
 ·refine E.GL.st rfl rfl rfl (E.ST.call rfl ent28 (E.evc rfl (E.evc rfl (E.evc rfl E.evn))) ((within_q x.f0 0 99 true (iff_of_true rfl h7) _).mono ?_))
  rintro e w7 ⟨rfl, l7⟩
  refine ⟨_, rfl, ?_⟩
  replace b1 := blk_below b1 l7
  replace L := below_step L l7
  refine E.gr rfl (E.Runs.not rfl rfl) ?_
  refine E.gm rfl rfl rfl (E.gr rfl (E.Runs.fieldAddr rfl rfl hu36 rfl (by assumption) rfl) ?_)
  refine E.gr rfl (E.Runs.load rfl rfl hu3 (by first | assumption | exact E.blkc (by assumption) rfl | exact pw_cell_below L (by assumption))) ?_
  refine E.GL.cmp rfl rfl rfl (fun _ h => (E.Runs.lss rfl rfl rfl h)) (fun h12 => ?_) (fun h12 => ?_)
  ·refine E.gr rfl (E.Runs.pick_f rfl rfl rfl) ?_
   refine E.gm rfl rfl rfl (E.gk rfl (E.gk rfl (E.gk rfl (E.gk rfl (E.gk rfl (E.gt rfl rfl rfl rfl (E.gm rfl rfl rfl (E.gk rfl (E.gk rfl ?_)))))))))
   refine E.gk rfl (E.gt rfl rfl rfl rfl (E.gm rfl rfl rfl (E.gk rfl (E.gk rfl (E.gk rfl (E.gk rfl (E.gk rfl (E.gt rfl rfl rfl rfl (E.gm rfl rfl rfl ?_)))))))))
   refine E.gk rfl (E.gk rfl (E.gk rfl (E.gk rfl (E.gt rfl rfl rfl rfl (E.gm rfl rfl rfl (E.gk rfl (E.gk rfl (E.gk rfl (E.gk rfl ?_)))))))))
   refine E.gt rfl rfl rfl rfl (E.gm rfl rfl rfl (E.gk rfl (E.gk rfl (E.gk rfl (E.gk rfl (E.gt rfl rfl rfl rfl (E.gm rfl rfl rfl (E.gk rfl (E.gk rfl ?_)))))))))
   refine E.gk rfl (E.gk rfl (E.gt rfl rfl rfl rfl (E.gm rfl rfl rfl (E.gk rfl (E.gk rfl (E.gk rfl (E.gk rfl (E.gt rfl rfl rfl rfl (E.gd ?_)))))))))
   refine E.qc (E.CG.cond_t rfl (E.cs (E.cl (E.ga rfl rfl rfl (E.gd (E.qc (E.CG.ret (E.QG.pass_ret ?_))))))))
   exact E.QG.result rfl rfl ⟨false, rfl, (fun q => by cases q), L⟩
  ·refine E.gr rfl (E.Runs.pick_f rfl rfl rfl) ?_
   refine E.gm rfl rfl rfl (E.gr rfl (E.Runs.fieldAddr rfl rfl hu36 rfl (by assumption) rfl) ?_)
   refine E.gr rfl (E.Runs.load rfl rfl hu3 (by first | assumption | exact E.blkc (by assumption) rfl | exact pw_cell_below L (by assumption))) ?_
   refine E.gr rfl (E.Runs.fieldAddr rfl rfl hu36 rfl (by assumption) rfl) ?_
   refine E.gr rfl (E.Runs.load rfl rfl hu3 (by first | assumption | exact E.blkc (by assumption) rfl | exact pw_cell_below L (by assumption))) ?_
   refine E.GL.cmp rfl rfl rfl (fun _ h => (E.Runs.gtr rfl rfl rfl h)) (fun h19 => ?_) (fun h19 => ?_)
   ·refine E.gr rfl (E.Runs.pick_f rfl rfl rfl) ?_
    refine E.gm rfl rfl rfl (E.gk rfl (E.gk rfl (E.gk rfl (E.gt rfl rfl rfl rfl (E.gm rfl rfl rfl (E.gk rfl (E.gk rfl (E.gk rfl (E.gk rfl ?_)))))))))
    refine E.gk rfl (E.gt rfl rfl rfl rfl (E.gm rfl rfl rfl (E.gk rfl (E.gk rfl (E.gk rfl (E.gk rfl (E.gt rfl rfl rfl rfl (E.gm rfl rfl rfl (E.gk rfl ?_)))))))))
    refine E.gk rfl (E.gk rfl (E.gk rfl (E.gt rfl rfl rfl rfl (E.gm rfl rfl rfl (E.gk rfl (E.gk rfl (E.gk rfl (E.gk rfl (E.gt rfl rfl rfl rfl ?_)))))))))
    refine E.gm rfl rfl rfl (E.gk rfl (E.gk rfl (E.gk rfl (E.gk rfl (E.gt rfl rfl rfl rfl (E.gm rfl rfl rfl (E.gk rfl (E.gk rfl (E.gk rfl ?_)))))))))
    refine E.gk rfl (E.gt rfl rfl rfl rfl (E.gd (E.qc (E.CG.cond_t rfl (E.cs (E.cl (E.ga rfl rfl rfl (E.gd (E.qc ?_)))))))))
    refine E.CG.ret (E.QG.pass_ret ?_)
    exact E.QG.result rfl rfl ⟨false, rfl, (fun q => by cases q), L⟩
   ·refine E.gr rfl (E.Runs.pick_f rfl rfl rfl) ?_
    refine E.gm rfl rfl rfl (E.gr rfl (E.Runs.fieldAddr rfl rfl hu36 rfl (by assumption) rfl) ?_)
    refine E.gr rfl (E.Runs.load rfl rfl hu3 (by first | assumption | exact E.blkc (by assumption) rfl | exact pw_cell_below L (by assumption))) ?_
    refine E.GL.cmp rfl rfl rfl (fun _ h => (E.Runs.gtr rfl rfl rfl h)) (fun h24 => ?_) (fun h24 => ?_)
    ·refine E.gr rfl (E.Runs.pick_f rfl rfl rfl) ?_
     refine E.gm rfl rfl rfl (E.gk rfl (E.gk rfl (E.gk rfl (E.gk rfl (E.gk rfl (E.gt rfl rfl rfl rfl (E.gm rfl rfl rfl (E.gk rfl (E.gk rfl ?_)))))))))
     refine E.gk rfl (E.gk rfl (E.gt rfl rfl rfl rfl (E.gm rfl rfl rfl (E.gk rfl (E.gk rfl (E.gk rfl (E.gk rfl (E.gt rfl rfl rfl rfl (E.gm rfl rfl rfl ?_)))))))))
     refine E.gk rfl (E.gk rfl (E.gk rfl (E.gk rfl (E.gt rfl rfl rfl rfl (E.gm rfl rfl rfl (E.gk rfl (E.gk rfl (E.gk rfl (E.gk rfl ?_)))))))))
     refine E.gt rfl rfl rfl rfl (E.gm rfl rfl rfl (E.gk rfl (E.gk rfl (E.gk rfl (E.gk rfl (E.gt rfl rfl rfl rfl (E.gd (E.qc (E.CG.cond_t rfl ?_)))))))))
     refine E.cs (E.cl (E.ga rfl rfl rfl (E.gd (E.qc (E.CG.ret (E.QG.pass_ret ?_))))))
     exact E.QG.result rfl rfl ⟨false, rfl, (fun q => by cases q), L⟩
    ·refine E.gr rfl (E.Runs.pick_f rfl rfl rfl) ?_
     refine E.gm rfl rfl rfl (E.gr rfl (E.Runs.fieldAddr rfl rfl hu36 rfl (by assumption) rfl) ?_)
     refine E.gr rfl (E.Runs.load1 rfl rfl hu22 rfl (by first | assumption | exact E.blkc (by assumption) rfl | exact pw_cell_below L (by assumption))) ?_
     refine E.gr rfl (E.Runs.len rfl rfl hu22) ?_
     by_cases h30 : inR (x.f3.length : Int) 1 6
     ·refine E.GL.st rfl rfl rfl (E.ST.call rfl ent28 (E.evc rfl (E.evc rfl (E.evc rfl E.evn))) ((within_q (x.f3.length : Int) 1 6 true (iff_of_true rfl h30) _).mono ?_))
      rintro e w30 ⟨rfl, l30⟩
      refine ⟨_, rfl, ?_⟩
      replace b1 := blk_below b1 l30
      replace L := below_step L l30
      refine E.gr rfl (E.Runs.not rfl rfl) ?_
      refine E.gr rfl (E.Runs.pick_f rfl rfl rfl) ?_
      refine E.gm rfl rfl rfl (E.gr rfl (E.Runs.fieldAddr rfl rfl hu36 rfl (by assumption) rfl) ?_)
      refine E.gr rfl (E.Runs.load1 rfl rfl hu34 rfl (by first | assumption | exact E.blkc (by assumption) rfl | exact pw_cell_below L (by assumption))) ?_
      refine E.gr rfl (E.Runs.len rfl rfl hu34) ?_
      refine E.GL.cmp rfl rfl rfl (fun _ h => (E.Runs.gtr rfl rfl rfl h)) (fun h37 => ?_) (fun h37 => ?_)
      ·refine E.gr rfl (E.Runs.pick_f rfl rfl rfl) ?_
       refine E.gm rfl rfl rfl (E.gk rfl (E.gk rfl (E.gk rfl (E.gk rfl (E.gt rfl rfl rfl rfl (E.gm rfl rfl rfl (E.gk rfl (E.gk rfl (E.gk rfl ?_)))))))))
       refine E.gk rfl (E.gt rfl rfl rfl rfl (E.gm rfl rfl rfl (E.gk rfl (E.gk rfl (E.gk rfl (E.gk rfl (E.gt rfl rfl rfl rfl (E.gm rfl rfl rfl (E.gk rfl ?_)))))))))
       refine E.gk rfl (E.gk rfl (E.gk rfl (E.gt rfl rfl rfl rfl (E.gd (E.qc (E.CG.cond_t rfl (E.cs (E.cl (E.ga rfl rfl rfl ?_)))))))))
       refine E.gd (E.qc (E.CG.ret (E.QG.pass_ret ?_)))
       exact E.QG.result rfl rfl ⟨false, rfl, (fun q => by cases q), L⟩
      ·refine E.gr rfl (E.Runs.pick_f rfl rfl rfl) ?_
       refine E.gm rfl rfl rfl (E.gr rfl (E.Runs.fieldAddr rfl rfl hu36 rfl (by assumption) rfl) ?_)
       refine E.gr rfl (E.Runs.load rfl rfl hu3 (by first | assumption | exact E.blkc (by assumption) rfl | exact pw_cell_below L (by assumption))) ?_
       by_cases h42 : inR x.f5 0 10000000
       ·refine E.GL.st rfl rfl rfl (E.ST.call rfl ent28 (E.evc rfl (E.evc rfl (E.evc rfl E.evn))) ((within_q x.f5 0 10000000 true (iff_of_true rfl h42) _).mono ?_))
        rintro e w42 ⟨rfl, l42⟩
        refine ⟨_, rfl, ?_⟩
        replace b1 := blk_below b1 l42
        replace L := below_step L l42
        refine E.gr rfl (E.Runs.not rfl rfl) ?_
        refine E.gr rfl (E.Runs.pick_f rfl rfl rfl) ?_
        refine E.gm rfl rfl rfl (E.gr rfl (E.Runs.fieldAddr rfl rfl hu36 rfl (by assumption) rfl) ?_)
        refine E.gr rfl (E.Runs.load rfl rfl hu3 (by first | assumption | exact E.blkc (by assumption) rfl | exact pw_cell_below L (by assumption))) ?_
        by_cases h48 : inR x.f7 0 10000000
        ·refine E.GL.st rfl rfl rfl (E.ST.call rfl ent28 (E.evc rfl (E.evc rfl (E.evc rfl E.evn))) ((within_q x.f7 0 10000000 true (iff_of_true rfl h48) _).mono ?_))
         rintro e w48 ⟨rfl, l48⟩
         refine ⟨_, rfl, ?_⟩
         replace b1 := blk_below b1 l48
         replace L := below_step L l48
         refine E.gr rfl (E.Runs.not rfl rfl) ?_
         refine E.gr rfl (E.Runs.pick_f rfl rfl rfl) ?_
         refine E.gm rfl rfl rfl (E.gr rfl (E.Runs.fieldAddr rfl rfl hu36 rfl (by assumption) rfl) ?_)
         refine E.gr rfl (E.Runs.load rfl rfl hu3 (by first | assumption | exact E.blkc (by assumption) rfl | exact pw_cell_below L (by assumption))) ?_
         by_cases h54 : inR x.f6 0 1000
         ·refine E.GL.st rfl rfl rfl (E.ST.call rfl ent28 (E.evc rfl (E.evc rfl (E.evc rfl E.evn))) ((within_q x.f6 0 1000 true (iff_of_true rfl h54) _).mono ?_))
          rintro e w54 ⟨rfl, l54⟩
          refine ⟨_, rfl, ?_⟩
          replace b1 := blk_below b1 l54
          replace L := below_step L l54
          refine E.gr rfl (E.Runs.not rfl rfl) ?_
          refine E.gr rfl (E.Runs.pick_f rfl rfl rfl) ?_
          refine E.gm rfl rfl rfl (E.gr rfl (E.Runs.fieldAddr rfl rfl hu36 rfl (by assumption) rfl) ?_)
          refine E.gr rfl (E.Runs.load rfl rfl hu3 (by first | assumption | exact E.blkc (by assumption) rfl | exact pw_cell_below L (by assumption))) ?_
          by_cases h60 : inR x.f8 0 100000000
          ·refine E.GL.st rfl rfl rfl (E.ST.call rfl ent28 (E.evc rfl (E.evc rfl (E.evc rfl E.evn))) ((within_q x.f8 0 100000000 true (iff_of_true rfl h60) _).mono ?_))
           rintro e w60 ⟨rfl, l60⟩
           refine ⟨_, rfl, ?_⟩
           replace b1 := blk_below b1 l60
           replace L := below_step L l60
           refine E.gr rfl (E.Runs.not rfl rfl) ?_
           refine E.gr rfl (E.Runs.pick_f rfl rfl rfl) ?_
           refine E.gd (E.qc (E.CG.cond_f rfl (E.CG.skip (E.qc (E.cs (E.cs (E.cl (E.ga rfl rfl rfl (E.gd ?_)))))))))
           refine E.qc (E.CG.block ?_)
           have s4_b1 := b1
           have s4_L := L
           refine E.CG.loop (fun (i : Nat) => [(1, .pointer (some ⟨g1, 0, none⟩)), (3, .int .i64 i)]) (fun i w' => i ≤ x.f3.length ∧ (∀ k, k < i → ∀ y, x.f3[k]? = some y → 0 ≤ y ∧ y ≤ 1000) ∧ w'.heap[g1]? = some (.cells #[.int .i64 x.f0, .int .i64 x.f1, .int .i64 x.f2, .slice a3 x.f3.length k3, .slice a4 x.f4.length k4, .int .i64 x.f5, .int .i64 x.f6, .int .i64 x.f7, .int .i64 x.f8] 36 (0, 0)) ∧ Below w.heap.size w w') (fun i => x.f3.length - i) 0 (E.subc rfl (E.subc rfl E.subn)) ⟨Nat.zero_le _, fun k hk => by omega, b1, L⟩ ?_
           rintro i w4 ⟨hi, hok, b1, L⟩
           refine E.cs (E.cs (E.cl (E.gm rfl rfl rfl (E.gr rfl (E.Runs.fieldAddr rfl rfl hu36 rfl (by assumption) rfl) ?_))))
           refine E.gr rfl (E.Runs.load1 rfl rfl hu22 rfl (by first | assumption | exact E.blkc (by assumption) rfl | exact pw_cell_below L (by assumption))) ?_
           refine E.gr rfl (E.Runs.len rfl rfl hu22) ?_
           refine E.GL.cmp rfl rfl rfl (fun _ h => (E.Runs.lss rfl rfl rfl h)) (fun h67 => ?_) (fun h67 => ?_)
           ·obtain ⟨y, hy⟩ := get_ex (show i < x.f3.length by omega)
            obtain ⟨ad, eA, X⟩ := int_at hM.s hy
            refine E.gd (E.qc (E.CG.cond_t rfl (E.CG.skip (E.qc (E.cs (E.CG.block (E.cs (E.cl (E.gr rfl (E.Runs.fieldAddr rfl rfl hu36 rfl (by assumption) rfl) ?_)))))))))
            refine E.gr rfl (E.Runs.load1 rfl rfl hu22 rfl (by first | assumption | exact E.blkc (by assumption) rfl | exact pw_cell_below L (by assumption))) ?_
            refine E.gm rfl rfl rfl (E.gr rfl (E.Runs.indexAddrA (i := i) rfl rfl rfl hu22 z3 o3 (by omega) eA rfl) ?_)
            refine E.gr rfl (E.Runs.load rfl rfl hu3 (pw_cell_below L X)) ?_
            by_cases h75 : inR y 0 1000
            ·refine E.GL.st rfl rfl rfl (E.ST.call rfl ent28 (E.evc rfl (E.evc rfl (E.evc rfl E.evn))) ((within_q y 0 1000 true (iff_of_true rfl h75) _).mono ?_))
             rintro e w75 ⟨rfl, l75⟩
             refine ⟨_, rfl, ?_⟩
             replace b1 := blk_below b1 l75
             replace L := below_step L l75
             refine E.gr rfl (E.Runs.not rfl rfl) ?_
             refine E.gd (E.qc (E.CG.cond_f rfl (E.CG.skip (E.QG.block_normal (E.qc (E.cl (E.gm rfl rfl rfl (E.gr rfl (E.Runs.add rfl rfl rfl (IntWalk.i64_in _ (by omega))) ?_))))))))
             refine E.ga rfl rfl rfl (E.gd ?_)
             exact E.QG.round (i + 1) (E.subc rfl (E.subc rfl E.subn)) ⟨by omega, all_more hok hy h75, b1, L⟩ (by omega)
            ·refine E.GL.st rfl rfl rfl (E.ST.call rfl ent28 (E.evc rfl (E.evc rfl (E.evc rfl E.evn))) ((within_q y 0 1000 false (iff_of_false Bool.false_ne_true h75) _).mono ?_))
             rintro e w75 ⟨rfl, l75⟩
             refine ⟨_, rfl, ?_⟩
             replace b1 := blk_below b1 l75
             replace L := below_step L l75
             refine E.gr rfl (E.Runs.not rfl rfl) ?_
             refine E.gd (E.qc (E.CG.cond_t rfl (E.cs (E.cl (E.ga rfl rfl rfl (E.gd (E.qc (E.CG.ret (E.QG.block_ret ?_)))))))))
             refine E.QG.pass_ret (E.QG.pass_ret (E.QG.block_ret (E.QG.pass_ret ?_)))
             exact E.QG.result rfl rfl ⟨false, rfl, (fun q => by cases q), L⟩
           ·have hst : AllR x.f3 0 1000 := all_done hok (by omega)
            refine E.gd (E.qc (E.CG.cond_f rfl (E.CG.exit (E.QG.pass_exit (E.QG.pass_exit (E.QG.block_here (E.qc (E.cs (E.cs ?_)))))))))
            refine E.cl (E.ga rfl rfl rfl (E.gd (E.qc (E.CG.block ?_))))
            have s9_b1 := b1
            have s9_L := L
            refine E.CG.loop (fun (i : Nat) => [(1, .pointer (some ⟨g1, 0, none⟩)), (4, .int .i64 i)]) (fun i w' => i ≤ x.f4.length ∧ (∀ k, k < i → ∀ t, x.f4[k]? = some t → TrOk x.f4 k t) ∧ w'.heap[g1]? = some (.cells #[.int .i64 x.f0, .int .i64 x.f1, .int .i64 x.f2, .slice a3 x.f3.length k3, .slice a4 x.f4.length k4, .int .i64 x.f5, .int .i64 x.f6, .int .i64 x.f7, .int .i64 x.f8] 36 (0, 0)) ∧ Below w.heap.size w w') (fun i => x.f4.length - i) 0 (E.subc rfl (E.subc rfl E.subn)) ⟨Nat.zero_le _, fun k hk => by omega, b1, L⟩ ?_
            rintro i w9 ⟨hi, hok, b1, L⟩
            refine E.cs (E.cs (E.cl (E.gm rfl rfl rfl (E.gr rfl (E.Runs.fieldAddr rfl rfl hu36 rfl (by assumption) rfl) ?_))))
            refine E.gr rfl (E.Runs.load1 rfl rfl hu34 rfl (by first | assumption | exact E.blkc (by assumption) rfl | exact pw_cell_below L (by assumption))) ?_
            refine E.gr rfl (E.Runs.len rfl rfl hu34) ?_
            refine E.GL.cmp rfl rfl rfl (fun _ h => (E.Runs.lss rfl rfl rfl h)) (fun h81 => ?_) (fun h81 => ?_)
            ·obtain ⟨t, ht⟩ := get_ex (show i < x.f4.length by omega)
             obtain ⟨ad, eA, X⟩ := tier_at hM.t ht
             refine E.gd (E.qc (E.CG.cond_t rfl (E.CG.skip (E.qc (E.cs (E.CG.block (E.cs (E.CG.heldH (none) (by kernel_rfl) fun v11 lD hh => ?_))))))))
             replace b1 := blk_below b1 lD
             replace L := below_step L lD
             clear lD
             have s_b1 := b1
             have s_L := L
             refine E.GH.take (i := 0) rfl (by kernel_rfl) (by kernel_rfl) (by kernel_rfl) (by intro c a d v w h; first | (cases d <;> exact h) | exact nomatch (show _ ∧ _ from h).1) rfl rfl rfl (fun w' hS => (E.Runs.fieldAddr rfl rfl hu36 rfl (by assumption) rfl)) ?_
             refine E.GH.take (i := 1) rfl (by kernel_rfl) (by kernel_rfl) (by kernel_rfl) (by intro c a d v w h; first | (cases d <;> exact h) | exact nomatch (show _ ∧ _ from h).1) rfl rfl rfl (fun w' hS => (E.Runs.load1 rfl rfl hu34 rfl (by first | exact E.keeps hS (E.blkc (by assumption) rfl) (by first | exact E.nen | exact E.nes (by assumption) | exact E.nes (Ne.symm (by assumption))) | exact pw_cell_below (below_step s_L (E.belowG hS)) (by assumption)))) ?_
             refine E.GH.take (i := 2) rfl (by kernel_rfl) (by kernel_rfl) (by kernel_rfl) (by intro c a d v w h; first | (cases d <;> exact h) | exact nomatch (show _ ∧ _ from h).1) rfl rfl rfl (fun w' hS => (E.Runs.move rfl rfl)) ?_
             refine E.GH.take (i := 3) rfl (by kernel_rfl) (by kernel_rfl) (by kernel_rfl) (by intro c a d v w h; first | (cases d <;> exact h) | exact nomatch (show _ ∧ _ from h).1) rfl rfl rfl (fun w' hS => (E.Runs.indexAddrA (i := i) rfl rfl rfl hu34 z86 o86 (by omega) eA rfl)) ?_
             refine E.GH.take (i := 4) rfl (by kernel_rfl) (by kernel_rfl) (by kernel_rfl) (by intro c a d v w h; first | (cases d <;> exact h) | exact nomatch (show _ ∧ _ from h).1) rfl rfl rfl (fun w' hS => (E.Runs.fieldAddr rfl rfl hu86 rfl (by assumption) rfl)) ?_
             refine E.GH.take (i := 5) rfl (by kernel_rfl) (by kernel_rfl) (by kernel_rfl) (by intro c a d v w h; first | (cases d <;> exact h) | exact nomatch (show _ ∧ _ from h).1) rfl rfl rfl (fun w' hS => (E.Runs.load rfl rfl hu3 (pw_cell_below (below_step s_L (E.belowG hS)) (X 0 _ rfl)))) ?_
             by_cases h90 : inR t.f0 0 10000000
             ·refine E.GH.one (i := 6) (by kernel_rfl) rfl ?_
              refine E.GO.st rfl rfl rfl (E.ST.call rfl ent28 (E.evc rfl (E.evc rfl (E.evc rfl E.evn))) ((within_q t.f0 0 10000000 true (iff_of_true rfl h90) _).mono ?_))
              rintro e w90 ⟨rfl, l90⟩
              refine ⟨_, rfl, hh.trans (E.gbB l90), ?_⟩
              replace hh := hh.trans (E.gbB l90)
              replace b1 := blk_below b1 l90
              replace L := below_step L l90
              refine E.GH.take (i := 7) rfl (by kernel_rfl) (by kernel_rfl) (by kernel_rfl) (by intro c a d v w h; first | (cases d <;> exact h) | exact nomatch (show _ ∧ _ from h).1) rfl rfl rfl (fun w' hS => (E.Runs.not rfl rfl)) ?_
              refine E.GH.take (i := 8) rfl (by kernel_rfl) (by kernel_rfl) (by kernel_rfl) (by intro c a d v w h; first | (cases d <;> exact h) | exact nomatch (show _ ∧ _ from h).1) rfl rfl rfl (fun w' hS => (E.Runs.move rfl rfl)) ?_
              refine E.GH.take (i := 9) rfl (by kernel_rfl) (by kernel_rfl) (by kernel_rfl) (by intro c a d v w h; first | (cases d <;> exact h) | exact nomatch (show _ ∧ _ from h).1) rfl rfl rfl (fun w' hS => (E.Runs.fieldAddr rfl rfl hu36 rfl (by assumption) rfl)) ?_
              refine E.GH.take (i := 10) rfl (by kernel_rfl) (by kernel_rfl) (by kernel_rfl) (by intro c a d v w h; first | (cases d <;> exact h) | exact nomatch (show _ ∧ _ from h).1) rfl rfl rfl (fun w' hS => (E.Runs.load1 rfl rfl hu34 rfl (by first | exact E.keeps hS (E.blkc (by assumption) rfl) (by first | exact E.nen | exact E.nes (by assumption) | exact E.nes (Ne.symm (by assumption))) | exact pw_cell_below (below_step s_L (E.belowG hS)) (by assumption)))) ?_
              refine E.GH.take (i := 11) rfl (by kernel_rfl) (by kernel_rfl) (by kernel_rfl) (by intro c a d v w h; first | (cases d <;> exact h) | exact nomatch (show _ ∧ _ from h).1) rfl rfl rfl (fun w' hS => (E.Runs.move rfl rfl)) ?_
              refine E.GH.take (i := 12) rfl (by kernel_rfl) (by kernel_rfl) (by kernel_rfl) (by intro c a d v w h; first | (cases d <;> exact h) | exact nomatch (show _ ∧ _ from h).1) rfl rfl rfl (fun w' hS => (E.Runs.indexAddrA (i := i) rfl rfl rfl hu34 z86 o86 (by omega) eA rfl)) ?_
              refine E.GH.take (i := 13) rfl (by kernel_rfl) (by kernel_rfl) (by kernel_rfl) (by intro c a d v w h; first | (cases d <;> exact h) | exact nomatch (show _ ∧ _ from h).1) rfl rfl rfl (fun w' hS => (E.Runs.fieldAddr rfl rfl hu86 rfl (by assumption) rfl)) ?_
              refine E.GH.take (i := 14) rfl (by kernel_rfl) (by kernel_rfl) (by kernel_rfl) (by intro c a d v w h; first | (cases d <;> exact h) | exact nomatch (show _ ∧ _ from h).1) rfl rfl rfl (fun w' hS => (E.Runs.load rfl rfl hu3 (pw_cell_below (below_step s_L (E.belowG hS)) (X 1 _ rfl)))) ?_
              by_cases h99 : inR t.f1 0 1000
              ·refine E.GH.one (i := 15) (by kernel_rfl) rfl ?_
               refine E.GO.st rfl rfl rfl (E.ST.call rfl ent28 (E.evc rfl (E.evc rfl (E.evc rfl E.evn))) ((within_q t.f1 0 1000 true (iff_of_true rfl h99) _).mono ?_))
               rintro e w99 ⟨rfl, l99⟩
               refine ⟨_, rfl, hh.trans (E.gbB l99), ?_⟩
               replace hh := hh.trans (E.gbB l99)
               replace b1 := blk_below b1 l99
               replace L := below_step L l99
               refine E.GH.take (i := 16) rfl (by kernel_rfl) (by kernel_rfl) (by kernel_rfl) (by intro c a d v w h; first | (cases d <;> exact h) | exact nomatch (show _ ∧ _ from h).1) rfl rfl rfl (fun w' hS => (E.Runs.not rfl rfl)) ?_
               refine E.GH.take (i := 17) rfl (by kernel_rfl) (by kernel_rfl) (by kernel_rfl) (by intro c a d v w h; first | (cases d <;> exact h) | exact nomatch (show _ ∧ _ from h).1) rfl rfl rfl (fun w' hS => (E.Runs.pick_f rfl rfl rfl)) ?_
               refine E.GH.take (i := 18) rfl (by kernel_rfl) (by kernel_rfl) (by kernel_rfl) (by intro c a d v w h; first | (cases d <;> exact h) | exact nomatch (show _ ∧ _ from h).1) rfl rfl rfl (fun w' hS => (E.Runs.move rfl rfl)) ?_
               refine E.GH.take (i := 19) rfl (by kernel_rfl) (by kernel_rfl) (by kernel_rfl) (by intro c a d v w h; first | (cases d <;> exact h) | exact nomatch (show _ ∧ _ from h).1) rfl rfl rfl (fun w' hS => (E.Runs.move rfl rfl)) ?_
               refine E.GH.cmp (i := 20) rfl (by kernel_rfl) (by kernel_rfl) (by kernel_rfl) (by intro c a d v w h; first | (cases d <;> exact h) | exact nomatch (show _ ∧ _ from h).1) rfl rfl rfl (fun _ h w' hS => (E.Runs.gtr rfl rfl rfl h)) (fun h104 => ?_) (fun h104 => ?_)
               ·obtain ⟨s, hs⟩ := get_ex (show i - 1 < x.f4.length by omega)
                obtain ⟨ad2, eA2, X2⟩ := tier_at hM.t hs
                have hlt : t.f0 ≤ s.f0 ∨ TrOk x.f4 i t := by
                 by_cases q : t.f0 ≤ s.f0
                 ·exact .inl q
                 ·refine .inr ⟨h90, h99, fun j u e hu => ?_⟩
                  have : j = i - 1 := by omega
                  subst this
                  rw [hs] at hu
                  injection hu with hu
                  subst hu
                  omega
                refine E.GH.take (i := 21) rfl (by kernel_rfl) (by kernel_rfl) (by kernel_rfl) (by intro c a d v w h; first | (cases d <;> exact h) | exact nomatch (show _ ∧ _ from h).1) rfl rfl rfl (fun w' hS => (E.Runs.move rfl rfl)) ?_
                refine E.GH.take (i := 22) rfl (by kernel_rfl) (by kernel_rfl) (by kernel_rfl) (by intro c a d v w h; first | (cases d <;> exact h) | exact nomatch (show _ ∧ _ from h).1) rfl rfl rfl (fun w' hS => (E.Runs.fieldAddr rfl rfl hu36 rfl (by assumption) rfl)) ?_
                refine E.GH.take (i := 23) rfl (by kernel_rfl) (by kernel_rfl) (by kernel_rfl) (by intro c a d v w h; first | (cases d <;> exact h) | exact nomatch (show _ ∧ _ from h).1) rfl rfl rfl (fun w' hS => (E.Runs.load1 rfl rfl hu34 rfl (by first | exact E.keeps hS (E.blkc (by assumption) rfl) (by first | exact E.nen | exact E.nes (by assumption) | exact E.nes (Ne.symm (by assumption))) | exact pw_cell_below (below_step s_L (E.belowG hS)) (by assumption)))) ?_
                refine E.GH.take (i := 24) rfl (by kernel_rfl) (by kernel_rfl) (by kernel_rfl) (by intro c a d v w h; first | (cases d <;> exact h) | exact nomatch (show _ ∧ _ from h).1) rfl rfl rfl (fun w' hS => (E.Runs.move rfl rfl)) ?_
                refine E.GH.take (i := 25) rfl (by kernel_rfl) (by kernel_rfl) (by kernel_rfl) (by intro c a d v w h; first | (cases d <;> exact h) | exact nomatch (show _ ∧ _ from h).1) rfl rfl rfl (fun w' hS => (E.Runs.indexAddrA (i := i) rfl rfl rfl hu34 z86 o86 (by omega) eA rfl)) ?_
                refine E.GH.take (i := 26) rfl (by kernel_rfl) (by kernel_rfl) (by kernel_rfl) (by intro c a d v w h; first | (cases d <;> exact h) | exact nomatch (show _ ∧ _ from h).1) rfl rfl rfl (fun w' hS => (E.Runs.fieldAddr rfl rfl hu86 rfl (by assumption) rfl)) ?_
                refine E.GH.take (i := 27) rfl (by kernel_rfl) (by kernel_rfl) (by kernel_rfl) (by intro c a d v w h; first | (cases d <;> exact h) | exact nomatch (show _ ∧ _ from h).1) rfl rfl rfl (fun w' hS => (E.Runs.load rfl rfl hu3 (pw_cell_below (below_step s_L (E.belowG hS)) (X 0 _ rfl)))) ?_
                refine E.GH.take (i := 28) rfl (by kernel_rfl) (by kernel_rfl) (by kernel_rfl) (by intro c a d v w h; first | (cases d <;> exact h) | exact nomatch (show _ ∧ _ from h).1) rfl rfl rfl (fun w' hS => (E.Runs.fieldAddr rfl rfl hu36 rfl (by assumption) rfl)) ?_
                refine E.GH.take (i := 29) rfl (by kernel_rfl) (by kernel_rfl) (by kernel_rfl) (by intro c a d v w h; first | (cases d <;> exact h) | exact nomatch (show _ ∧ _ from h).1) rfl rfl rfl (fun w' hS => (E.Runs.load1 rfl rfl hu34 rfl (by first | exact E.keeps hS (E.blkc (by assumption) rfl) (by first | exact E.nen | exact E.nes (by assumption) | exact E.nes (Ne.symm (by assumption))) | exact pw_cell_below (below_step s_L (E.belowG hS)) (by assumption)))) ?_
                refine E.GH.take (i := 30) rfl (by kernel_rfl) (by kernel_rfl) (by kernel_rfl) (by intro c a d v w h; first | (cases d <;> exact h) | exact nomatch (show _ ∧ _ from h).1) rfl rfl rfl (fun w' hS => (E.Runs.move rfl rfl)) ?_
                refine E.GH.take (i := 31) rfl (by kernel_rfl) (by kernel_rfl) (by kernel_rfl) (by intro c a d v w h; first | (cases d <;> exact h) | exact nomatch (show _ ∧ _ from h).1) rfl rfl rfl (fun w' hS => (E.Runs.sub rfl rfl rfl ((IntWalk.i64_in _ (by omega)).trans (show _ = ((i - 1 : Nat) : Int) from by omega)))) ?_
                refine E.GH.take (i := 32) rfl (by kernel_rfl) (by kernel_rfl) (by kernel_rfl) (by intro c a d v w h; first | (cases d <;> exact h) | exact nomatch (show _ ∧ _ from h).1) rfl rfl rfl (fun w' hS => (E.Runs.indexAddrA (i := i - 1) rfl rfl rfl hu34 z86 o86 (by omega) eA2 rfl)) ?_
                refine E.GH.take (i := 33) rfl (by kernel_rfl) (by kernel_rfl) (by kernel_rfl) (by intro c a d v w h; first | (cases d <;> exact h) | exact nomatch (show _ ∧ _ from h).1) rfl rfl rfl (fun w' hS => (E.Runs.fieldAddr rfl rfl hu86 rfl (by assumption) rfl)) ?_
                refine E.GH.take (i := 34) rfl (by kernel_rfl) (by kernel_rfl) (by kernel_rfl) (by intro c a d v w h; first | (cases d <;> exact h) | exact nomatch (show _ ∧ _ from h).1) rfl rfl rfl (fun w' hS => (E.Runs.load rfl rfl hu3 (pw_cell_below (below_step s_L (E.belowG hS)) (X2 0 _ rfl)))) ?_
                refine E.GH.cmp (i := 35) rfl (by kernel_rfl) (by kernel_rfl) (by kernel_rfl) (by intro c a d v w h; first | (cases d <;> exact h) | exact nomatch (show _ ∧ _ from h).1) rfl rfl rfl (fun _ h w' hS => (E.Runs.leq rfl rfl rfl h)) (fun h119 => ?_) (fun h119 => ?_)
                ·refine E.GH.take (i := 36) rfl (by kernel_rfl) (by kernel_rfl) (by kernel_rfl) (by intro c a d v w h; first | (cases d <;> exact h) | exact nomatch (show _ ∧ _ from h).1) rfl rfl rfl (fun w' hS => (E.Runs.pick_t rfl rfl rfl)) ?_
                 refine E.GH.take (i := 37) rfl (by kernel_rfl) (by kernel_rfl) (by kernel_rfl) (by intro c a d v w h; first | (cases d <;> exact h) | exact nomatch (show _ ∧ _ from h).1) rfl rfl rfl (fun w' hS => (E.Runs.pick_f rfl rfl rfl)) ?_
                 refine E.GH.done (by kernel_rfl) ?_
                 refine E.qc (E.CG.cond_t rfl (E.cs (E.cl (E.ga rfl rfl rfl (E.gd (E.qc (E.CG.ret (E.QG.block_ret (E.QG.pass_ret ?_)))))))))
                 refine E.QG.pass_ret (E.QG.block_ret (E.QG.pass_ret ?_))
                 exact E.QG.result rfl rfl ⟨false, rfl, (fun q => by cases q), L⟩
                ·have hgood : TrOk x.f4 i t := hlt.resolve_left h119
                 refine E.GH.take (i := 36) rfl (by kernel_rfl) (by kernel_rfl) (by kernel_rfl) (by intro c a d v w h; first | (cases d <;> exact h) | exact nomatch (show _ ∧ _ from h).1) rfl rfl rfl (fun w' hS => (E.Runs.pick_t rfl rfl rfl)) ?_
                 refine E.GH.take (i := 37) rfl (by kernel_rfl) (by kernel_rfl) (by kernel_rfl) (by intro c a d v w h; first | (cases d <;> exact h) | exact nomatch (show _ ∧ _ from h).1) rfl rfl rfl (fun w' hS => (E.Runs.pick_f rfl rfl rfl)) ?_
                 refine E.GH.done (by kernel_rfl) ?_
                 refine E.qc (E.CG.cond_f rfl (E.CG.skip (E.QG.block_normal (E.qc (E.cl (E.gm rfl rfl rfl (E.gr rfl (E.Runs.add rfl rfl rfl (IntWalk.i64_in _ (by omega))) ?_)))))))
                 refine E.ga rfl rfl rfl (E.gd ?_)
                 exact E.QG.round (i + 1) (E.subc rfl (E.subc rfl E.subn)) ⟨by omega, all_moreI hok ht hgood, b1, L⟩ (by omega)
               ·have hgood : TrOk x.f4 i t := ⟨h90, h99, fun j u e hu => by omega⟩
                refine E.GH.take (i := 21) rfl (by kernel_rfl) (by kernel_rfl) (by kernel_rfl) (by intro c a d v w h; first | (cases d <;> exact h) | exact nomatch (show _ ∧ _ from h).1) rfl rfl rfl (fun w' hS => (E.Runs.move rfl rfl)) ?_
                refine E.GH.pass (i := 22) rfl (by kernel_rfl) (by kernel_rfl) (by kernel_rfl) (by intro c a d v w h; first | (cases d <;> exact h) | exact nomatch (show _ ∧ _ from h).1) rfl rfl rfl ?_
                refine E.GH.pass (i := 23) rfl (by kernel_rfl) (by kernel_rfl) (by kernel_rfl) (by intro c a d v w h; first | (cases d <;> exact h) | exact nomatch (show _ ∧ _ from h).1) rfl rfl rfl ?_
                refine E.GH.pass (i := 24) rfl (by kernel_rfl) (by kernel_rfl) (by kernel_rfl) (by intro c a d v w h; first | (cases d <;> exact h) | exact nomatch (show _ ∧ _ from h).1) rfl rfl rfl ?_
                refine E.GH.pass (i := 25) rfl (by kernel_rfl) (by kernel_rfl) (by kernel_rfl) (by intro c a d v w h; first | (cases d <;> exact h) | exact nomatch (show _ ∧ _ from h).1) rfl rfl rfl ?_
                refine E.GH.pass (i := 26) rfl (by kernel_rfl) (by kernel_rfl) (by kernel_rfl) (by intro c a d v w h; first | (cases d <;> exact h) | exact nomatch (show _ ∧ _ from h).1) rfl rfl rfl ?_
                refine E.GH.pass (i := 27) rfl (by kernel_rfl) (by kernel_rfl) (by kernel_rfl) (by intro c a d v w h; first | (cases d <;> exact h) | exact nomatch (show _ ∧ _ from h).1) rfl rfl rfl ?_
                refine E.GH.pass (i := 28) rfl (by kernel_rfl) (by kernel_rfl) (by kernel_rfl) (by intro c a d v w h; first | (cases d <;> exact h) | exact nomatch (show _ ∧ _ from h).1) rfl rfl rfl ?_
                refine E.GH.pass (i := 29) rfl (by kernel_rfl) (by kernel_rfl) (by kernel_rfl) (by intro c a d v w h; first | (cases d <;> exact h) | exact nomatch (show _ ∧ _ from h).1) rfl rfl rfl ?_
                refine E.GH.pass (i := 30) rfl (by kernel_rfl) (by kernel_rfl) (by kernel_rfl) (by intro c a d v w h; first | (cases d <;> exact h) | exact nomatch (show _ ∧ _ from h).1) rfl rfl rfl ?_
                refine E.GH.pass (i := 31) rfl (by kernel_rfl) (by kernel_rfl) (by kernel_rfl) (by intro c a d v w h; first | (cases d <;> exact h) | exact nomatch (show _ ∧ _ from h).1) rfl rfl rfl ?_
                refine E.GH.pass (i := 32) rfl (by kernel_rfl) (by kernel_rfl) (by kernel_rfl) (by intro c a d v w h; first | (cases d <;> exact h) | exact nomatch (show _ ∧ _ from h).1) rfl rfl rfl ?_
                refine E.GH.pass (i := 33) rfl (by kernel_rfl) (by kernel_rfl) (by kernel_rfl) (by intro c a d v w h; first | (cases d <;> exact h) | exact nomatch (show _ ∧ _ from h).1) rfl rfl rfl ?_
                refine E.GH.pass (i := 34) rfl (by kernel_rfl) (by kernel_rfl) (by kernel_rfl) (by intro c a d v w h; first | (cases d <;> exact h) | exact nomatch (show _ ∧ _ from h).1) rfl rfl rfl ?_
                refine E.GH.pass (i := 35) rfl (by kernel_rfl) (by kernel_rfl) (by kernel_rfl) (by intro c a d v w h; first | (cases d <;> exact h) | exact nomatch (show _ ∧ _ from h).1) rfl rfl rfl ?_
                refine E.GH.take (i := 36) rfl (by kernel_rfl) (by kernel_rfl) (by kernel_rfl) (by intro c a d v w h; first | (cases d <;> exact h) | exact nomatch (show _ ∧ _ from h).1) rfl rfl rfl (fun w' hS => (E.Runs.pick_f rfl rfl rfl)) ?_
                refine E.GH.take (i := 37) rfl (by kernel_rfl) (by kernel_rfl) (by kernel_rfl) (by intro c a d v w h; first | (cases d <;> exact h) | exact nomatch (show _ ∧ _ from h).1) rfl rfl rfl (fun w' hS => (E.Runs.pick_f rfl rfl rfl)) ?_
                refine E.GH.done (by kernel_rfl) ?_
                refine E.qc (E.CG.cond_f rfl (E.CG.skip (E.QG.block_normal (E.qc (E.cl (E.gm rfl rfl rfl (E.gr rfl (E.Runs.add rfl rfl rfl (IntWalk.i64_in _ (by omega))) ?_)))))))
                refine E.ga rfl rfl rfl (E.gd ?_)
                exact E.QG.round (i + 1) (E.subc rfl (E.subc rfl E.subn)) ⟨by omega, all_moreI hok ht hgood, b1, L⟩ (by omega)
              ·refine E.GH.one (i := 15) (by kernel_rfl) rfl ?_
               refine E.GO.st rfl rfl rfl (E.ST.call rfl ent28 (E.evc rfl (E.evc rfl (E.evc rfl E.evn))) ((within_q t.f1 0 1000 false (iff_of_false Bool.false_ne_true h99) _).mono ?_))
               rintro e w99 ⟨rfl, l99⟩
               refine ⟨_, rfl, hh.trans (E.gbB l99), ?_⟩
               replace hh := hh.trans (E.gbB l99)
               replace b1 := blk_below b1 l99
               replace L := below_step L l99
               refine E.GH.take (i := 16) rfl (by kernel_rfl) (by kernel_rfl) (by kernel_rfl) (by intro c a d v w h; first | (cases d <;> exact h) | exact nomatch (show _ ∧ _ from h).1) rfl rfl rfl (fun w' hS => (E.Runs.not rfl rfl)) ?_
               refine E.GH.take (i := 17) rfl (by kernel_rfl) (by kernel_rfl) (by kernel_rfl) (by intro c a d v w h; first | (cases d <;> exact h) | exact nomatch (show _ ∧ _ from h).1) rfl rfl rfl (fun w' hS => (E.Runs.pick_f rfl rfl rfl)) ?_
               refine E.GH.take (i := 18) rfl (by kernel_rfl) (by kernel_rfl) (by kernel_rfl) (by intro c a d v w h; first | (cases d <;> exact h) | exact nomatch (show _ ∧ _ from h).1) rfl rfl rfl (fun w' hS => (E.Runs.move rfl rfl)) ?_
               refine E.GH.pass (i := 19) rfl (by kernel_rfl) (by kernel_rfl) (by kernel_rfl) (by intro c a d v w h; first | (cases d <;> exact h) | exact nomatch (show _ ∧ _ from h).1) rfl rfl rfl ?_
               refine E.GH.pass (i := 20) rfl (by kernel_rfl) (by kernel_rfl) (by kernel_rfl) (by intro c a d v w h; first | (cases d <;> exact h) | exact nomatch (show _ ∧ _ from h).1) rfl rfl rfl ?_
               refine E.GH.pass (i := 21) rfl (by kernel_rfl) (by kernel_rfl) (by kernel_rfl) (by intro c a d v w h; first | (cases d <;> exact h) | exact nomatch (show _ ∧ _ from h).1) rfl rfl rfl ?_
               refine E.GH.pass (i := 22) rfl (by kernel_rfl) (by kernel_rfl) (by kernel_rfl) (by intro c a d v w h; first | (cases d <;> exact h) | exact nomatch (show _ ∧ _ from h).1) rfl rfl rfl ?_
               refine E.GH.pass (i := 23) rfl (by kernel_rfl) (by kernel_rfl) (by kernel_rfl) (by intro c a d v w h; first | (cases d <;> exact h) | exact nomatch (show _ ∧ _ from h).1) rfl rfl rfl ?_
               refine E.GH.pass (i := 24) rfl (by kernel_rfl) (by kernel_rfl) (by kernel_rfl) (by intro c a d v w h; first | (cases d <;> exact h) | exact nomatch (show _ ∧ _ from h).1) rfl rfl rfl ?_
               refine E.GH.pass (i := 25) rfl (by kernel_rfl) (by kernel_rfl) (by kernel_rfl) (by intro c a d v w h; first | (cases d <;> exact h) | exact nomatch (show _ ∧ _ from h).1) rfl rfl rfl ?_
               refine E.GH.pass (i := 26) rfl (by kernel_rfl) (by kernel_rfl) (by kernel_rfl) (by intro c a d v w h; first | (cases d <;> exact h) | exact nomatch (show _ ∧ _ from h).1) rfl rfl rfl ?_
               refine E.GH.pass (i := 27) rfl (by kernel_rfl) (by kernel_rfl) (by kernel_rfl) (by intro c a d v w h; first | (cases d <;> exact h) | exact nomatch (show _ ∧ _ from h).1) rfl rfl rfl ?_
               refine E.GH.pass (i := 28) rfl (by kernel_rfl) (by kernel_rfl) (by kernel_rfl) (by intro c a d v w h; first | (cases d <;> exact h) | exact nomatch (show _ ∧ _ from h).1) rfl rfl rfl ?_
               refine E.GH.pass (i := 29) rfl (by kernel_rfl) (by kernel_rfl) (by kernel_rfl) (by intro c a d v w h; first | (cases d <;> exact h) | exact nomatch (show _ ∧ _ from h).1) rfl rfl rfl ?_
               refine E.GH.pass (i := 30) rfl (by kernel_rfl) (by kernel_rfl) (by kernel_rfl) (by intro c a d v w h; first | (cases d <;> exact h) | exact nomatch (show _ ∧ _ from h).1) rfl rfl rfl ?_
               refine E.GH.pass (i := 31) rfl (by kernel_rfl) (by kernel_rfl) (by kernel_rfl) (by intro c a d v w h; first | (cases d <;> exact h) | exact nomatch (show _ ∧ _ from h).1) rfl rfl rfl ?_
               refine E.GH.pass (i := 32) rfl (by kernel_rfl) (by kernel_rfl) (by kernel_rfl) (by intro c a d v w h; first | (cases d <;> exact h) | exact nomatch (show _ ∧ _ from h).1) rfl rfl rfl ?_
               refine E.GH.pass (i := 33) rfl (by kernel_rfl) (by kernel_rfl) (by kernel_rfl) (by intro c a d v w h; first | (cases d <;> exact h) | exact nomatch (show _ ∧ _ from h).1) rfl rfl rfl ?_
               refine E.GH.pass (i := 34) rfl (by kernel_rfl) (by kernel_rfl) (by kernel_rfl) (by intro c a d v w h; first | (cases d <;> exact h) | exact nomatch (show _ ∧ _ from h).1) rfl rfl rfl ?_
               refine E.GH.pass (i := 35) rfl (by kernel_rfl) (by kernel_rfl) (by kernel_rfl) (by intro c a d v w h; first | (cases d <;> exact h) | exact nomatch (show _ ∧ _ from h).1) rfl rfl rfl ?_
               refine E.GH.pass (i := 36) rfl (by kernel_rfl) (by kernel_rfl) (by kernel_rfl) (by intro c a d v w h; first | (cases d <;> exact h) | exact nomatch (show _ ∧ _ from h).1) rfl rfl rfl ?_
               refine E.GH.take (i := 37) rfl (by kernel_rfl) (by kernel_rfl) (by kernel_rfl) (by intro c a d v w h; first | (cases d <;> exact h) | exact nomatch (show _ ∧ _ from h).1) rfl rfl rfl (fun w' hS => (E.Runs.pick_t rfl rfl rfl)) ?_
               refine E.GH.done (by kernel_rfl) ?_
               refine E.qc (E.CG.cond_t rfl (E.cs (E.cl (E.ga rfl rfl rfl (E.gd (E.qc (E.CG.ret (E.QG.block_ret (E.QG.pass_ret ?_)))))))))
               refine E.QG.pass_ret (E.QG.block_ret (E.QG.pass_ret ?_))
               exact E.QG.result rfl rfl ⟨false, rfl, (fun q => by cases q), L⟩
             ·refine E.GH.one (i := 6) (by kernel_rfl) rfl ?_
              refine E.GO.st rfl rfl rfl (E.ST.call rfl ent28 (E.evc rfl (E.evc rfl (E.evc rfl E.evn))) ((within_q t.f0 0 10000000 false (iff_of_false Bool.false_ne_true h90) _).mono ?_))
              rintro e w90 ⟨rfl, l90⟩
              refine ⟨_, rfl, hh.trans (E.gbB l90), ?_⟩
              replace hh := hh.trans (E.gbB l90)
              replace b1 := blk_below b1 l90
              replace L := below_step L l90
              refine E.GH.take (i := 7) rfl (by kernel_rfl) (by kernel_rfl) (by kernel_rfl) (by intro c a d v w h; first | (cases d <;> exact h) | exact nomatch (show _ ∧ _ from h).1) rfl rfl rfl (fun w' hS => (E.Runs.not rfl rfl)) ?_
              refine E.GH.take (i := 8) rfl (by kernel_rfl) (by kernel_rfl) (by kernel_rfl) (by intro c a d v w h; first | (cases d <;> exact h) | exact nomatch (show _ ∧ _ from h).1) rfl rfl rfl (fun w' hS => (E.Runs.move rfl rfl)) ?_
              refine E.GH.pass (i := 9) rfl (by kernel_rfl) (by kernel_rfl) (by kernel_rfl) (by intro c a d v w h; first | (cases d <;> exact h) | exact nomatch (show _ ∧ _ from h).1) rfl rfl rfl ?_
              refine E.GH.pass (i := 10) rfl (by kernel_rfl) (by kernel_rfl) (by kernel_rfl) (by intro c a d v w h; first | (cases d <;> exact h) | exact nomatch (show _ ∧ _ from h).1) rfl rfl rfl ?_
              refine E.GH.pass (i := 11) rfl (by kernel_rfl) (by kernel_rfl) (by kernel_rfl) (by intro c a d v w h; first | (cases d <;> exact h) | exact nomatch (show _ ∧ _ from h).1) rfl rfl rfl ?_
              refine E.GH.pass (i := 12) rfl (by kernel_rfl) (by kernel_rfl) (by kernel_rfl) (by intro c a d v w h; first | (cases d <;> exact h) | exact nomatch (show _ ∧ _ from h).1) rfl rfl rfl ?_
              refine E.GH.pass (i := 13) rfl (by kernel_rfl) (by kernel_rfl) (by kernel_rfl) (by intro c a d v w h; first | (cases d <;> exact h) | exact nomatch (show _ ∧ _ from h).1) rfl rfl rfl ?_
              refine E.GH.pass (i := 14) rfl (by kernel_rfl) (by kernel_rfl) (by kernel_rfl) (by intro c a d v w h; first | (cases d <;> exact h) | exact nomatch (show _ ∧ _ from h).1) rfl rfl rfl ?_
              refine E.GH.pass (i := 15) rfl (by kernel_rfl) (by kernel_rfl) (by kernel_rfl) (by intro c a d v w h; first | (cases d <;> exact h) | exact nomatch (show _ ∧ _ from h).1) rfl rfl rfl ?_
              refine E.GH.pass (i := 16) rfl (by kernel_rfl) (by kernel_rfl) (by kernel_rfl) (by intro c a d v w h; first | (cases d <;> exact h) | exact nomatch (show _ ∧ _ from h).1) rfl rfl rfl ?_
              refine E.GH.take (i := 17) rfl (by kernel_rfl) (by kernel_rfl) (by kernel_rfl) (by intro c a d v w h; first | (cases d <;> exact h) | exact nomatch (show _ ∧ _ from h).1) rfl rfl rfl (fun w' hS => (E.Runs.pick_t rfl rfl rfl)) ?_
              refine E.GH.take (i := 18) rfl (by kernel_rfl) (by kernel_rfl) (by kernel_rfl) (by intro c a d v w h; first | (cases d <;> exact h) | exact nomatch (show _ ∧ _ from h).1) rfl rfl rfl (fun w' hS => (E.Runs.move rfl rfl)) ?_
              refine E.GH.pass (i := 19) rfl (by kernel_rfl) (by kernel_rfl) (by kernel_rfl) (by intro c a d v w h; first | (cases d <;> exact h) | exact nomatch (show _ ∧ _ from h).1) rfl rfl rfl ?_
              refine E.GH.pass (i := 20) rfl (by kernel_rfl) (by kernel_rfl) (by kernel_rfl) (by intro c a d v w h; first | (cases d <;> exact h) | exact nomatch (show _ ∧ _ from h).1) rfl rfl rfl ?_
              refine E.GH.pass (i := 21) rfl (by kernel_rfl) (by kernel_rfl) (by kernel_rfl) (by intro c a d v w h; first | (cases d <;> exact h) | exact nomatch (show _ ∧ _ from h).1) rfl rfl rfl ?_
              refine E.GH.pass (i := 22) rfl (by kernel_rfl) (by kernel_rfl) (by kernel_rfl) (by intro c a d v w h; first | (cases d <;> exact h) | exact nomatch (show _ ∧ _ from h).1) rfl rfl rfl ?_
              refine E.GH.pass (i := 23) rfl (by kernel_rfl) (by kernel_rfl) (by kernel_rfl) (by intro c a d v w h; first | (cases d <;> exact h) | exact nomatch (show _ ∧ _ from h).1) rfl rfl rfl ?_
              refine E.GH.pass (i := 24) rfl (by kernel_rfl) (by kernel_rfl) (by kernel_rfl) (by intro c a d v w h; first | (cases d <;> exact h) | exact nomatch (show _ ∧ _ from h).1) rfl rfl rfl ?_
              refine E.GH.pass (i := 25) rfl (by kernel_rfl) (by kernel_rfl) (by kernel_rfl) (by intro c a d v w h; first | (cases d <;> exact h) | exact nomatch (show _ ∧ _ from h).1) rfl rfl rfl ?_
              refine E.GH.pass (i := 26) rfl (by kernel_rfl) (by kernel_rfl) (by kernel_rfl) (by intro c a d v w h; first | (cases d <;> exact h) | exact nomatch (show _ ∧ _ from h).1) rfl rfl rfl ?_
              refine E.GH.pass (i := 27) rfl (by kernel_rfl) (by kernel_rfl) (by kernel_rfl) (by intro c a d v w h; first | (cases d <;> exact h) | exact nomatch (show _ ∧ _ from h).1) rfl rfl rfl ?_
              refine E.GH.pass (i := 28) rfl (by kernel_rfl) (by kernel_rfl) (by kernel_rfl) (by intro c a d v w h; first | (cases d <;> exact h) | exact nomatch (show _ ∧ _ from h).1) rfl rfl rfl ?_
              refine E.GH.pass (i := 29) rfl (by kernel_rfl) (by kernel_rfl) (by kernel_rfl) (by intro c a d v w h; first | (cases d <;> exact h) | exact nomatch (show _ ∧ _ from h).1) rfl rfl rfl ?_
              refine E.GH.pass (i := 30) rfl (by kernel_rfl) (by kernel_rfl) (by kernel_rfl) (by intro c a d v w h; first | (cases d <;> exact h) | exact nomatch (show _ ∧ _ from h).1) rfl rfl rfl ?_
              refine E.GH.pass (i := 31) rfl (by kernel_rfl) (by kernel_rfl) (by kernel_rfl) (by intro c a d v w h; first | (cases d <;> exact h) | exact nomatch (show _ ∧ _ from h).1) rfl rfl rfl ?_
              refine E.GH.pass (i := 32) rfl (by kernel_rfl) (by kernel_rfl) (by kernel_rfl) (by intro c a d v w h; first | (cases d <;> exact h) | exact nomatch (show _ ∧ _ from h).1) rfl rfl rfl ?_
              refine E.GH.pass (i := 33) rfl (by kernel_rfl) (by kernel_rfl) (by kernel_rfl) (by intro c a d v w h; first | (cases d <;> exact h) | exact nomatch (show _ ∧ _ from h).1) rfl rfl rfl ?_
              refine E.GH.pass (i := 34) rfl (by kernel_rfl) (by kernel_rfl) (by kernel_rfl) (by intro c a d v w h; first | (cases d <;> exact h) | exact nomatch (show _ ∧ _ from h).1) rfl rfl rfl ?_
              refine E.GH.pass (i := 35) rfl (by kernel_rfl) (by kernel_rfl) (by kernel_rfl) (by intro c a d v w h; first | (cases d <;> exact h) | exact nomatch (show _ ∧ _ from h).1) rfl rfl rfl ?_
              refine E.GH.pass (i := 36) rfl (by kernel_rfl) (by kernel_rfl) (by kernel_rfl) (by intro c a d v w h; first | (cases d <;> exact h) | exact nomatch (show _ ∧ _ from h).1) rfl rfl rfl ?_
              refine E.GH.take (i := 37) rfl (by kernel_rfl) (by kernel_rfl) (by kernel_rfl) (by intro c a d v w h; first | (cases d <;> exact h) | exact nomatch (show _ ∧ _ from h).1) rfl rfl rfl (fun w' hS => (E.Runs.pick_t rfl rfl rfl)) ?_
              refine E.GH.done (by kernel_rfl) ?_
              refine E.qc (E.CG.cond_t rfl (E.cs (E.cl (E.ga rfl rfl rfl (E.gd (E.qc (E.CG.ret (E.QG.block_ret (E.QG.pass_ret ?_)))))))))
              refine E.QG.pass_ret (E.QG.block_ret (E.QG.pass_ret ?_))
              exact E.QG.result rfl rfl ⟨false, rfl, (fun q => by cases q), L⟩
            ·refine E.gd (E.qc (E.CG.cond_f rfl (E.CG.exit (E.QG.pass_exit (E.QG.pass_exit (E.QG.block_here (E.qc (E.cs (E.cl ?_)))))))))
             refine E.ga rfl rfl rfl (E.gd (E.qc (E.CG.ret ?_)))
             have hn : CNum x := ⟨h7, by omega, by omega, by omega, ⟨h30.1, h30.2⟩, by omega, h42, h48, h54, h60⟩
             exact E.QG.result rfl rfl ⟨true, rfl, (fun _ => ⟨hn, hst, (fun i t ht => hok i (by have := get_lt ht; omega) t ht)⟩), L⟩
          ·refine E.GL.st rfl rfl rfl (E.ST.call rfl ent28 (E.evc rfl (E.evc rfl (E.evc rfl E.evn))) ((within_q x.f8 0 100000000 false (iff_of_false Bool.false_ne_true h60) _).mono ?_))
           rintro e w60 ⟨rfl, l60⟩
           refine ⟨_, rfl, ?_⟩
           replace b1 := blk_below b1 l60
           replace L := below_step L l60
           refine E.gr rfl (E.Runs.not rfl rfl) ?_
           refine E.gr rfl (E.Runs.pick_f rfl rfl rfl) ?_
           refine E.gd (E.qc (E.CG.cond_t rfl (E.cs (E.cl (E.ga rfl rfl rfl (E.gd (E.qc (E.CG.ret (E.QG.pass_ret ?_)))))))))
           exact E.QG.result rfl rfl ⟨false, rfl, (fun q => by cases q), L⟩
         ·refine E.GL.st rfl rfl rfl (E.ST.call rfl ent28 (E.evc rfl (E.evc rfl (E.evc rfl E.evn))) ((within_q x.f6 0 1000 false (iff_of_false Bool.false_ne_true h54) _).mono ?_))
          rintro e w54 ⟨rfl, l54⟩
          refine ⟨_, rfl, ?_⟩
          replace b1 := blk_below b1 l54
          replace L := below_step L l54
          refine E.gr rfl (E.Runs.not rfl rfl) ?_
          refine E.gr rfl (E.Runs.pick_f rfl rfl rfl) ?_
          refine E.gm rfl rfl rfl (E.gk rfl (E.gk rfl (E.gk rfl (E.gk rfl (E.gt rfl rfl rfl rfl (E.gd (E.qc (E.CG.cond_t rfl (E.cs ?_)))))))))
          refine E.cl (E.ga rfl rfl rfl (E.gd (E.qc (E.CG.ret (E.QG.pass_ret ?_)))))
          exact E.QG.result rfl rfl ⟨false, rfl, (fun q => by cases q), L⟩
        ·refine E.GL.st rfl rfl rfl (E.ST.call rfl ent28 (E.evc rfl (E.evc rfl (E.evc rfl E.evn))) ((within_q x.f7 0 10000000 false (iff_of_false Bool.false_ne_true h48) _).mono ?_))
         rintro e w48 ⟨rfl, l48⟩
         refine ⟨_, rfl, ?_⟩
         replace b1 := blk_below b1 l48
         replace L := below_step L l48
         refine E.gr rfl (E.Runs.not rfl rfl) ?_
         refine E.gr rfl (E.Runs.pick_f rfl rfl rfl) ?_
         refine E.gm rfl rfl rfl (E.gk rfl (E.gk rfl (E.gk rfl (E.gk rfl (E.gt rfl rfl rfl rfl (E.gm rfl rfl rfl (E.gk rfl (E.gk rfl (E.gk rfl ?_)))))))))
         refine E.gk rfl (E.gt rfl rfl rfl rfl (E.gd (E.qc (E.CG.cond_t rfl (E.cs (E.cl (E.ga rfl rfl rfl (E.gd (E.qc ?_)))))))))
         refine E.CG.ret (E.QG.pass_ret ?_)
         exact E.QG.result rfl rfl ⟨false, rfl, (fun q => by cases q), L⟩
       ·refine E.GL.st rfl rfl rfl (E.ST.call rfl ent28 (E.evc rfl (E.evc rfl (E.evc rfl E.evn))) ((within_q x.f5 0 10000000 false (iff_of_false Bool.false_ne_true h42) _).mono ?_))
        rintro e w42 ⟨rfl, l42⟩
        refine ⟨_, rfl, ?_⟩
        replace b1 := blk_below b1 l42
        replace L := below_step L l42
        refine E.gr rfl (E.Runs.not rfl rfl) ?_
        refine E.gr rfl (E.Runs.pick_f rfl rfl rfl) ?_
        refine E.gm rfl rfl rfl (E.gk rfl (E.gk rfl (E.gk rfl (E.gk rfl (E.gt rfl rfl rfl rfl (E.gm rfl rfl rfl (E.gk rfl (E.gk rfl (E.gk rfl ?_)))))))))
        refine E.gk rfl (E.gt rfl rfl rfl rfl (E.gm rfl rfl rfl (E.gk rfl (E.gk rfl (E.gk rfl (E.gk rfl (E.gt rfl rfl rfl rfl (E.gd (E.qc ?_)))))))))
        refine E.CG.cond_t rfl (E.cs (E.cl (E.ga rfl rfl rfl (E.gd (E.qc (E.CG.ret (E.QG.pass_ret ?_)))))))
        exact E.QG.result rfl rfl ⟨false, rfl, (fun q => by cases q), L⟩
     ·refine E.GL.st rfl rfl rfl (E.ST.call rfl ent28 (E.evc rfl (E.evc rfl (E.evc rfl E.evn))) ((within_q (x.f3.length : Int) 1 6 false (iff_of_false Bool.false_ne_true h30) _).mono ?_))
      rintro e w30 ⟨rfl, l30⟩
      refine ⟨_, rfl, ?_⟩
      replace b1 := blk_below b1 l30
      replace L := below_step L l30
      refine E.gr rfl (E.Runs.not rfl rfl) ?_
      refine E.gr rfl (E.Runs.pick_f rfl rfl rfl) ?_
      refine E.gm rfl rfl rfl (E.gk rfl (E.gk rfl (E.gk rfl (E.gk rfl (E.gt rfl rfl rfl rfl (E.gm rfl rfl rfl (E.gk rfl (E.gk rfl (E.gk rfl ?_)))))))))
      refine E.gk rfl (E.gt rfl rfl rfl rfl (E.gm rfl rfl rfl (E.gk rfl (E.gk rfl (E.gk rfl (E.gk rfl (E.gt rfl rfl rfl rfl (E.gm rfl rfl rfl (E.gk rfl ?_)))))))))
      refine E.gk rfl (E.gk rfl (E.gk rfl (E.gt rfl rfl rfl rfl (E.gm rfl rfl rfl (E.gk rfl (E.gk rfl (E.gk rfl (E.gk rfl (E.gt rfl rfl rfl rfl ?_)))))))))
      refine E.gd (E.qc (E.CG.cond_t rfl (E.cs (E.cl (E.ga rfl rfl rfl (E.gd (E.qc (E.CG.ret (E.QG.pass_ret ?_)))))))))
      exact E.QG.result rfl rfl ⟨false, rfl, (fun q => by cases q), L⟩
 ·refine E.GL.st rfl rfl rfl (E.ST.call rfl ent28 (E.evc rfl (E.evc rfl (E.evc rfl E.evn))) ((within_q x.f0 0 99 false (iff_of_false Bool.false_ne_true h7) _).mono ?_))
  rintro e w7 ⟨rfl, l7⟩
  refine ⟨_, rfl, ?_⟩
  replace b1 := blk_below b1 l7
  replace L := below_step L l7
  refine E.gr rfl (E.Runs.not rfl rfl) ?_
  refine E.gm rfl rfl rfl (E.gk rfl (E.gk rfl (E.gk rfl (E.gt rfl rfl rfl rfl (E.gm rfl rfl rfl (E.gk rfl (E.gk rfl (E.gk rfl (E.gk rfl ?_)))))))))
  refine E.gk rfl (E.gt rfl rfl rfl rfl (E.gm rfl rfl rfl (E.gk rfl (E.gk rfl (E.gk rfl (E.gt rfl rfl rfl rfl (E.gm rfl rfl rfl (E.gk rfl (E.gk rfl ?_)))))))))
  refine E.gk rfl (E.gk rfl (E.gk rfl (E.gt rfl rfl rfl rfl (E.gm rfl rfl rfl (E.gk rfl (E.gk rfl (E.gk rfl (E.gk rfl (E.gt rfl rfl rfl rfl ?_)))))))))
  refine E.gm rfl rfl rfl (E.gk rfl (E.gk rfl (E.gk rfl (E.gk rfl (E.gt rfl rfl rfl rfl (E.gm rfl rfl rfl (E.gk rfl (E.gk rfl (E.gk rfl ?_)))))))))
  refine E.gk rfl (E.gt rfl rfl rfl rfl (E.gm rfl rfl rfl (E.gk rfl (E.gk rfl (E.gk rfl (E.gk rfl (E.gt rfl rfl rfl rfl (E.gm rfl rfl rfl (E.gk rfl ?_)))))))))
  refine E.gk rfl (E.gk rfl (E.gk rfl (E.gt rfl rfl rfl rfl (E.gd (E.qc (E.CG.cond_t rfl (E.cs (E.cl (E.ga rfl rfl rfl ?_)))))))))
  refine E.gd (E.qc (E.CG.ret (E.QG.pass_ret ?_)))
  exact E.QG.result rfl rfl ⟨false, rfl, (fun q => by cases q), L⟩

set_option maxRecDepth 100000 in
set_option maxHeartbeats 8000000 in

theorem areBooks_r (V : Bk) (m : Ba) (w : World) (hM : BM w V m) (hs : Sz V) :
  Calls Try.prog 16 #[bv V m] w fun e w' => ∃ r, e = .returned (.bool r) ∧ (r = true → BOk V) ∧ Below w.heap.size w w' := by
 have hsc := hs.c
 have hu3 := Try.underlying3
 have hu22 := Try.underlying22
 have hu26 := Try.underlying26
 have hu29 := Try.underlying29
 have hu36 := Try.underlying36
 obtain ⟨z3, o3⟩ := info_some info3s (by decide)
 obtain ⟨z26, o26⟩ := info_some info26s (by decide)
 obtain ⟨z36, o36⟩ := info_some info36s (by decide)
 refine E.enter (N := 46) Try.func16 rfl Try.ntmps16 (args := [bv V m]) (by simp) ?_
 have L := Below.refl w.heap.size w
 refine E.cs (E.cl ?_)
 refine E.GL.st rfl rfl rfl (E.ST.box rfl rfl fun g1 w1 e1 b1 l1 => ?_)
 have h1_L : w.heap.size ≤ g1 := by rw [e1]; exact L.size
 replace L := below_step L l1
 refine E.ga rfl rfl rfl (E.gd (E.qc (E.cs (E.cs (E.cl (E.ga rfl rfl rfl (E.gd (E.qc (E.CG.block ?_)))))))))
 have s2_b1 := b1
 have s2_L := L
 refine E.CG.loop (fun (i : Nat) => [(1, .pointer (some ⟨g1, 0, none⟩)), (3, .int .i64 i)]) (fun i w' => i ≤ V.cs.length ∧ (∀ k, k < i → ∀ x, V.cs[k]? = some x → COk x ∧ ∀ j y, j < k → V.cs[j]? = some y → y.f0 ≠ x.f0) ∧ w'.heap[g1]? = some (.cells #[.int .i64 V.tax, .slice m.A V.cs.length m.a, .slice m.B V.rs.length m.b] 29 (0, 0)) ∧ Below w.heap.size w w') (fun i => V.cs.length - i) 0 (E.subc rfl (E.subc rfl E.subn)) ⟨Nat.zero_le _, fun k hk => by omega, b1, L⟩ ?_
 rintro i w2 ⟨hi, hok, b1, L⟩
 refine E.cs (E.cs (E.cl (E.gm rfl rfl rfl (E.gr rfl (E.Runs.fieldAddr rfl rfl hu29 rfl (by assumption) rfl) ?_))))
 refine E.gr rfl (E.Runs.load1 rfl rfl hu26 rfl (by first | assumption | exact E.blkc (by assumption) rfl | exact pw_cell_below L (by assumption))) ?_
 refine E.gr rfl (E.Runs.len rfl rfl hu26) ?_
 refine E.GL.cmp rfl rfl rfl (fun _ h => (E.Runs.lss rfl rfl rfl h)) (fun h9 => ?_) (fun h9 => ?_)
 ·obtain ⟨x, hx⟩ := get_ex (show i < V.cs.length by omega)
  obtain ⟨ad, a3, k3, a4, k4, eA, hx0, X⟩ := con_at hM.cs hx
  refine E.gd (E.qc (E.CG.cond_t rfl (E.CG.skip (E.qc (E.cs (E.CG.block (E.cs (E.cs (E.cl ?_)))))))))
  refine E.gr rfl (E.Runs.fieldAddr rfl rfl hu29 rfl (by assumption) rfl) ?_
  refine E.gr rfl (E.Runs.load1 rfl rfl hu26 rfl (by first | assumption | exact E.blkc (by assumption) rfl | exact pw_cell_below L (by assumption))) ?_
  refine E.gm rfl rfl rfl (E.gr rfl (E.Runs.indexAddrA (i := i) rfl rfl rfl hu26 z36 o36 (by omega) eA rfl) ?_)
  refine E.gr rfl (E.Runs.loads (cs := [.int .i64 x.f0, .int .i64 x.f1, .int .i64 x.f2, .slice a3 x.f3.length k3, .slice a4 x.f4.length k4, .int .i64 x.f5, .int .i64 x.f6, .int .i64 x.f7, .int .i64 x.f8]) rfl rfl hu36 rfl info36s (fun j v hv => pw_cell_below L (X j v hv))) ?_
  refine E.GL.st rfl rfl rfl (E.ST.call rfl ent27 (E.evc rfl E.evn) ((isContract_r x a3 a4 k3 k4 _ (hx0.below L) (hs.s x (mem_of hx)) (hs.t x (mem_of hx))).mono ?_))
  rintro e w17 ⟨r17, rfl, hr17, l17⟩
  refine ⟨_, rfl, ?_⟩
  replace b1 := blk_below b1 l17
  replace L := below_step L l17
  rcases r17 with _ | _
  ·refine E.gr rfl (E.Runs.not rfl rfl) ?_
   refine E.gd (E.qc (E.CG.cond_t rfl (E.cs (E.cl (E.ga rfl rfl rfl (E.gd (E.qc (E.CG.ret (E.QG.pass_ret ?_)))))))))
   refine E.QG.block_ret (E.QG.pass_ret (E.QG.pass_ret (E.QG.block_ret (E.QG.pass_ret ?_))))
   exact E.QG.result rfl rfl ⟨false, rfl, (fun q => by cases q), L⟩
  ·have hxk := hr17 rfl
   refine E.gr rfl (E.Runs.not rfl rfl) ?_
   refine E.gd (E.qc (E.CG.cond_f rfl (E.CG.skip (E.qc (E.cs (E.cl (E.ga rfl rfl rfl (E.gd (E.qc ?_)))))))))
   refine E.CG.block ?_
   have s7_b1 := b1
   have s7_L := L
   refine E.CG.loop (fun (k : Nat) => [(1, .pointer (some ⟨g1, 0, none⟩)), (3, .int .i64 i), (4, .int .i64 k)]) (fun k w' => k ≤ i ∧ (∀ j, j < k → ∀ y, V.cs[j]? = some y → y.f0 ≠ x.f0) ∧ w'.heap[g1]? = some (.cells #[.int .i64 V.tax, .slice m.A V.cs.length m.a, .slice m.B V.rs.length m.b] 29 (0, 0)) ∧ Below w.heap.size w w') (fun k => i - k) 0 (E.subc rfl (E.subc rfl (E.subc rfl E.subn))) ⟨Nat.zero_le _, fun k hk => by omega, b1, L⟩ ?_
   rintro k w7 ⟨hk, hdi, b1, L⟩
   refine E.cs (E.cs (E.cl (E.gm rfl rfl rfl (E.gm rfl rfl rfl ?_))))
   refine E.GL.cmp rfl rfl rfl (fun _ h => (E.Runs.lss rfl rfl rfl h)) (fun h21 => ?_) (fun h21 => ?_)
   ·obtain ⟨y, hy⟩ := get_ex (show k < V.cs.length by omega)
    obtain ⟨ad2, b3, l3, b4, l4, eA2, hy0, X2⟩ := con_at hM.cs hy
    refine E.gd (E.qc (E.CG.cond_t rfl (E.CG.skip (E.qc (E.cs (E.CG.block (E.cs (E.CG.quietF (by kernel_rfl) rfl (by kernel_rfl) (by kernel_rfl) ?_))))))))
    refine E.GQ.run rfl rfl rfl (E.Runs.fieldAddr rfl rfl hu29 rfl (by assumption) rfl) ?_
    refine E.GQ.run rfl rfl rfl (E.Runs.load1 rfl rfl hu26 rfl (by first | assumption | exact E.blkc (by assumption) rfl | exact pw_cell_below L (by assumption))) ?_
    refine E.GQ.run rfl rfl rfl (E.Runs.move rfl rfl) ?_
    refine E.GQ.run rfl rfl rfl (E.Runs.indexAddrA (i := k) rfl rfl rfl hu26 z36 o36 (by omega) eA2 rfl) ?_
    refine E.GQ.run rfl rfl rfl (E.Runs.fieldAddr rfl rfl hu36 rfl (by assumption) rfl) ?_
    refine E.GQ.run rfl rfl rfl (E.Runs.load rfl rfl hu3 (pw_cell_below L (X2 0 _ rfl))) ?_
    refine E.GQ.run rfl rfl rfl (E.Runs.fieldAddr rfl rfl hu29 rfl (by assumption) rfl) ?_
    refine E.GQ.run rfl rfl rfl (E.Runs.load1 rfl rfl hu26 rfl (by first | assumption | exact E.blkc (by assumption) rfl | exact pw_cell_below L (by assumption))) ?_
    refine E.GQ.run rfl rfl rfl (E.Runs.move rfl rfl) ?_
    refine E.GQ.run rfl rfl rfl (E.Runs.indexAddrA (i := i) rfl rfl rfl hu26 z36 o36 (by omega) eA rfl) ?_
    refine E.GQ.run rfl rfl rfl (E.Runs.fieldAddr rfl rfl hu36 rfl (by assumption) rfl) ?_
    refine E.GQ.run rfl rfl rfl (E.Runs.load rfl rfl hu3 (pw_cell_below L (X 0 _ rfl))) ?_
    refine E.GQ.cmp rfl rfl rfl (fun _ h => (E.Runs.eql rfl rfl rfl h)) (fun h36 => ?_) (fun h36 => ?_)
    ·refine E.GQ.doneB fun v9 lD => ?_
     replace b1 := blk_below b1 lD
     replace L := below_step L lD
     have lD9 := lD
     clear lD
     refine E.qc (E.CG.cond_t rfl (E.cs (E.cl (E.ga rfl rfl rfl (E.gd (E.qc (E.CG.ret (E.QG.block_ret (E.QG.pass_ret ?_)))))))))
     refine E.QG.pass_ret (E.QG.block_ret (E.QG.block_ret (E.QG.pass_ret (E.QG.pass_ret (E.QG.block_ret (E.QG.pass_ret ?_))))))
     exact E.QG.result rfl rfl ⟨false, rfl, (fun q => by cases q), L⟩
    ·refine E.GQ.doneB fun v9 lD => ?_
     replace b1 := blk_below b1 lD
     replace L := below_step L lD
     have lD9 := lD
     clear lD
     refine E.qc (E.CG.cond_f rfl (E.CG.skip (E.QG.block_normal (E.qc (E.cl (E.gm rfl rfl rfl (E.gr rfl (E.Runs.add rfl rfl rfl (IntWalk.i64_in _ (by omega))) ?_)))))))
     refine E.ga rfl rfl rfl (E.gd ?_)
     exact E.QG.round (k + 1) (E.subc rfl (E.subc rfl (E.subc rfl E.subn))) ⟨by omega, all_more hdi hy h36, b1, L⟩ (by omega)
   ·refine E.gd (E.qc (E.CG.cond_f rfl (E.CG.exit (E.QG.pass_exit (E.QG.pass_exit (E.QG.block_here (E.QG.block_normal (E.qc (E.cl ?_)))))))))
    refine E.gm rfl rfl rfl (E.gr rfl (E.Runs.add rfl rfl rfl (IntWalk.i64_in _ (by omega))) ?_)
    refine E.ga rfl rfl rfl (E.gd ?_)
    exact E.QG.round (i + 1) (E.subc rfl (E.subc rfl E.subn)) ⟨by omega, all_moreI hok hx ⟨hxk, fun j y hj hy => hdi j (by omega) y hy⟩, b1, L⟩ (by omega)
 ·refine E.gd (E.qc (E.CG.cond_f rfl (E.CG.exit (E.QG.pass_exit (E.QG.pass_exit (E.QG.block_here (E.qc (E.cs (E.cl ?_)))))))))
  refine E.gr rfl (E.Runs.fieldAddr rfl rfl hu29 rfl (by assumption) rfl) ?_
  refine E.gr rfl (E.Runs.load rfl rfl hu3 (by first | assumption | exact E.blkc (by assumption) rfl | exact pw_cell_below L (by assumption))) ?_
  by_cases h39 : inR V.tax 0 500
  ·refine E.GL.st rfl rfl rfl (E.ST.call rfl ent28 (E.evc rfl (E.evc rfl (E.evc rfl E.evn))) ((within_q V.tax 0 500 true (iff_of_true rfl h39) _).mono ?_))
   rintro e w39 ⟨rfl, l39⟩
   refine ⟨_, rfl, ?_⟩
   replace b1 := blk_below b1 l39
   replace L := below_step L l39
   refine E.gm rfl rfl rfl (E.gr rfl (E.Runs.fieldAddr rfl rfl hu29 rfl (by assumption) rfl) ?_)
   refine E.gr rfl (E.Runs.load1 rfl rfl hu26 rfl (by first | assumption | exact E.blkc (by assumption) rfl | exact pw_cell_below L (by assumption))) ?_
   refine E.gr rfl (E.Runs.len rfl rfl hu26) ?_
   refine E.GL.cmp rfl rfl rfl (fun _ h => (E.Runs.leq rfl rfl rfl h)) (fun h44 => ?_) (fun h44 => ?_)
   ·refine E.gt rfl rfl rfl rfl (E.ga rfl rfl rfl (E.gd (E.qc (E.CG.ret ?_))))
    exact E.QG.result rfl rfl ⟨true, rfl, (fun _ => ⟨h39, by omega, (fun x hx => by obtain ⟨k, hk⟩ := List.mem_iff_getElem?.mp hx; exact (hok k (by have := get_lt hk; omega) x hk).1), fun i j c d hij hc hd => (hok j (by have := get_lt hd; omega) d hd).2 i c hij hc⟩), L⟩
   ·refine E.gt rfl rfl rfl rfl (E.ga rfl rfl rfl (E.gd (E.qc (E.CG.ret ?_))))
    exact E.QG.result rfl rfl ⟨false, rfl, (fun q => by cases q), L⟩
  ·refine E.GL.st rfl rfl rfl (E.ST.call rfl ent28 (E.evc rfl (E.evc rfl (E.evc rfl E.evn))) ((within_q V.tax 0 500 false (iff_of_false Bool.false_ne_true h39) _).mono ?_))
   rintro e w39 ⟨rfl, l39⟩
   refine ⟨_, rfl, ?_⟩
   replace b1 := blk_below b1 l39
   replace L := below_step L l39
   refine E.gm rfl rfl rfl (E.gk rfl (E.gk rfl (E.gk rfl (E.gk rfl (E.gr rfl (E.Runs.pick_f rfl rfl rfl) ?_)))))
   refine E.ga rfl rfl rfl (E.gd (E.qc (E.CG.ret ?_)))
   exact E.QG.result rfl rfl ⟨false, rfl, (fun q => by cases q), L⟩

set_option maxRecDepth 100000 in
set_option maxHeartbeats 8000000 in

theorem areReports_r (V : Bk) (m : Ba) (w : World) (hM : BM w V m) (hs : Sz V) :
  Calls Try.prog 17 #[bv V m, .slice m.B V.rs.length m.b] w fun e w' => ∃ r, e = .returned (.bool r) ∧ Below w.heap.size w w' := by
 have hsr := hs.r
 have hu3 := Try.underlying3
 have hu22 := Try.underlying22
 have hu26 := Try.underlying26
 have hu27 := Try.underlying27
 have hu29 := Try.underlying29
 have hu34 := Try.underlying34
 have hu36 := Try.underlying36
 have hu55 := Try.underlying55
 obtain ⟨z3, o3⟩ := info_some info3s (by decide)
 obtain ⟨z26, o26⟩ := info_some info26s (by decide)
 obtain ⟨z27, o27⟩ := info_some info27s (by decide)
 obtain ⟨z36, o36⟩ := info_some info36s (by decide)
 obtain ⟨z55, o55⟩ := info_some info55s (by decide)
 refine E.enter (N := 88) Try.func17 rfl Try.ntmps17 (args := [bv V m, .slice m.B V.rs.length m.b]) (by simp) ?_
 have L := Below.refl w.heap.size w
 refine E.cs (E.cl ?_)
 refine E.GL.st rfl rfl rfl (E.ST.box rfl rfl fun g2 w2 e2 b2 l2 => ?_)
 have h2_L : w.heap.size ≤ g2 := by rw [e2]; exact L.size
 replace L := below_step L l2
 refine E.ga rfl rfl rfl (E.gd (E.qc (E.cs (E.cs (E.cl (E.ga rfl rfl rfl (E.gd (E.qc (E.CG.block ?_)))))))))
 have s2_b2 := b2
 have s2_L := L
 refine E.CG.loop (fun (i : Nat) => [(1, .slice m.B V.rs.length m.b), (2, .pointer (some ⟨g2, 0, none⟩)), (5, .int .i64 i)]) (fun i w' => i ≤ V.rs.length ∧ w'.heap[g2]? = some (.cells #[.int .i64 V.tax, .slice m.A V.cs.length m.a, .slice m.B V.rs.length m.b] 29 (0, 0)) ∧ Below w.heap.size w w') (fun i => V.rs.length - i) 0 (E.subc rfl (E.subc rfl (E.subc rfl E.subn))) ⟨Nat.zero_le _, b2, L⟩ ?_
 rintro i w2 ⟨hi, b2, L⟩
 refine E.cs (E.cs (E.cl (E.gm rfl rfl rfl (E.gm rfl rfl rfl (E.gr rfl (E.Runs.len rfl rfl hu27) ?_)))))
 refine E.GL.cmp rfl rfl rfl (fun _ h => (E.Runs.lss rfl rfl rfl h)) (fun h13 => ?_) (fun h13 => ?_)
 ·obtain ⟨x, hx⟩ := get_ex (show i < V.rs.length by omega)
  obtain ⟨ad, eA, X⟩ := rep_at hM.rs hx
  refine E.gd (E.qc (E.CG.cond_t rfl (E.CG.skip (E.qc (E.cs (E.CG.block (E.cs (E.cl (E.gm rfl rfl rfl ?_)))))))))
  refine E.gm rfl rfl rfl (E.gr rfl (E.Runs.indexAddrA (i := i) rfl rfl rfl hu27 z55 o55 (by omega) eA rfl) ?_)
  refine E.gr rfl (E.Runs.loads (cs := [.int .i64 x.f0, .int .i64 x.f1, .int .i64 x.f2, .int .i64 x.f3, .int .i64 x.f4, .int .i64 x.f5]) rfl rfl hu55 rfl info55s (fun j v hv => pw_cell_below L (X j v hv))) ?_
  refine E.GL.st rfl rfl rfl (E.ST.alloc rfl info55z fun g6 w6 e6 b6 l6 => ?_)
  have h6_L : w.heap.size ≤ g6 := by rw [e6]; exact L.size
  have n6_b2 : g2 ≠ g6 := by have := blk_lt b2; omega
  replace b2 := blk_below b2 l6
  replace L := below_step L l6
  refine E.GL.store_whole rfl rfl rfl rfl rfl b6 rfl info55s (rep_one _) fun wS4_5 c6 lS4_5 => ?_
  replace b2 := blk_grown b2 lS4_5 (E.nes (by first | assumption | exact Ne.symm (by assumption)))
  replace L := E.below_own L h6_L lS4_5
  replace b6 := c6
  clear c6
  refine E.gd (E.qc (E.cs (E.cl (E.gr rfl (E.Runs.loads (cs := [.int .i64 V.tax, .slice m.A V.cs.length m.a, .slice m.B V.rs.length m.b]) rfl rfl hu29 rfl info29s (blk_cells b2)) ?_))))
  refine E.gr rfl (E.Runs.fieldAddr rfl rfl hu55 rfl (by assumption) rfl) ?_
  refine E.gr rfl (E.Runs.load rfl rfl hu3 (by first | assumption | exact E.blkc (by assumption) rfl | exact pw_cell_below L (by assumption))) ?_
  refine E.GL.st rfl rfl rfl (E.ST.call rfl ent4 (E.evc rfl (E.evc rfl E.evn)) ((contract_r V m x.f2 _ (Kd.C_below hM.cs L) hs.c).mono ?_))
  rintro e w24 ⟨q, qa, qk, qb, ql, r24, rfl, hq, l24⟩
  refine ⟨_, rfl, ?_⟩
  replace b2 := blk_below b2 l24
  replace b6 := blk_below b6 l24
  replace L := below_step L l24
  refine E.gm rfl rfl rfl (E.gr rfl (E.Runs.extract rfl rfl rfl) ?_)
  refine E.gr rfl (E.Runs.extract rfl rfl rfl) ?_
  refine E.GL.st rfl rfl rfl (E.ST.alloc rfl info36z fun g7 w7 e7 b7 l7 => ?_)
  have h7_L : w.heap.size ≤ g7 := by rw [e7]; exact L.size
  have n7_b2 : g2 ≠ g7 := by have := blk_lt b2; omega
  have n7_b6 : g6 ≠ g7 := by have := blk_lt b6; omega
  replace b2 := blk_below b2 l7
  replace b6 := blk_below b6 l7
  replace L := below_step L l7
  refine E.GL.store_whole rfl rfl rfl rfl rfl b7 rfl info36s (con_one _ _ _ _ _ _ _ _ _ _ _ _ _) fun wS5_8 c7 lS5_8 => ?_
  replace b2 := blk_grown b2 lS5_8 (E.nes (by first | assumption | exact Ne.symm (by assumption)))
  replace b6 := blk_grown b6 lS5_8 (E.nes (by first | assumption | exact Ne.symm (by assumption)))
  replace L := E.below_own L h7_L lS5_8
  replace b7 := c7
  clear c7
  refine E.ga rfl rfl rfl (E.gd (E.qc (E.cs (E.cs (E.cl (E.gm rfl rfl rfl ?_))))))
  rcases r24 with _ | _
  ·refine E.gr rfl (E.Runs.not rfl rfl) ?_
   refine E.gm rfl rfl rfl (E.gk rfl (E.gk rfl (E.gk rfl (E.gk rfl (E.gt rfl rfl rfl rfl (E.gm rfl rfl rfl (E.gk rfl (E.gk rfl (E.gk rfl ?_)))))))))
   refine E.gk rfl (E.gk rfl (E.gk rfl (E.gk rfl (E.gk rfl (E.gt rfl rfl rfl rfl (E.gm rfl rfl rfl (E.gk rfl (E.gk rfl (E.gk rfl ?_)))))))))
   refine E.gk rfl (E.gk rfl (E.gk rfl (E.gk rfl (E.gk rfl (E.gt rfl rfl rfl rfl (E.gm rfl rfl rfl (E.gk rfl (E.gk rfl (E.gk rfl ?_)))))))))
   refine E.gk rfl (E.gt rfl rfl rfl rfl (E.gm rfl rfl rfl (E.gk rfl (E.gk rfl (E.gk rfl (E.gk rfl (E.gt rfl rfl rfl rfl (E.gd (E.qc ?_)))))))))
   refine E.CG.cond_t rfl (E.cs (E.cl (E.ga rfl rfl rfl (E.gd (E.qc (E.CG.ret (E.QG.pass_ret (E.QG.block_ret (E.QG.pass_ret ?_)))))))))
   refine E.QG.pass_ret (E.QG.block_ret (E.QG.pass_ret ?_))
   exact E.QG.result rfl rfl ⟨_, rfl, L⟩
  ·refine E.gr rfl (E.Runs.not rfl rfl) ?_
   refine E.gm rfl rfl rfl (E.gr rfl (E.Runs.fieldAddr rfl rfl hu55 rfl (by assumption) rfl) ?_)
   refine E.gr rfl (E.Runs.load rfl rfl hu3 (by first | assumption | exact E.blkc (by assumption) rfl | exact pw_cell_below L (by assumption))) ?_
   by_cases h32 : inR x.f0 0 99
   ·refine E.GL.st rfl rfl rfl (E.ST.call rfl ent28 (E.evc rfl (E.evc rfl (E.evc rfl E.evn))) ((within_q x.f0 0 99 true (iff_of_true rfl h32) _).mono ?_))
    rintro e w32 ⟨rfl, l32⟩
    refine ⟨_, rfl, ?_⟩
    replace b2 := blk_below b2 l32
    replace b6 := blk_below b6 l32
    replace b7 := blk_below b7 l32
    replace L := below_step L l32
    refine E.gr rfl (E.Runs.not rfl rfl) ?_
    refine E.gr rfl (E.Runs.pick_f rfl rfl rfl) ?_
    refine E.gm rfl rfl rfl (E.gr rfl (E.Runs.fieldAddr rfl rfl hu55 rfl (by assumption) rfl) ?_)
    refine E.gr rfl (E.Runs.load rfl rfl hu3 (by first | assumption | exact E.blkc (by assumption) rfl | exact pw_cell_below L (by assumption))) ?_
    refine E.GL.cmpn rfl rfl rfl (fun _ h => (E.Runs.neq rfl rfl rfl h)) (fun h38 => ?_) (fun h38 => ?_)
    ·refine E.gm rfl rfl rfl (E.gr rfl (E.Runs.fieldAddr rfl rfl hu55 rfl (by assumption) rfl) ?_)
     refine E.gr rfl (E.Runs.load rfl rfl hu3 (by first | assumption | exact E.blkc (by assumption) rfl | exact pw_cell_below L (by assumption))) ?_
     refine E.GL.cmpn rfl rfl rfl (fun _ h => (E.Runs.neq rfl rfl rfl h)) (fun h42 => ?_) (fun h42 => ?_)
     ·refine E.gt rfl rfl rfl rfl (E.gr rfl (E.Runs.pick_f rfl rfl rfl) ?_)
      refine E.gm rfl rfl rfl (E.gk rfl (E.gk rfl (E.gk rfl (E.gk rfl (E.gk rfl (E.gk rfl (E.gk rfl (E.gk rfl (E.gt rfl rfl rfl rfl ?_)))))))))
      refine E.gm rfl rfl rfl (E.gk rfl (E.gk rfl (E.gk rfl (E.gk rfl (E.gt rfl rfl rfl rfl (E.gm rfl rfl rfl (E.gk rfl (E.gk rfl (E.gk rfl ?_)))))))))
      refine E.gk rfl (E.gt rfl rfl rfl rfl (E.gd (E.qc (E.CG.cond_t rfl (E.cs (E.cl (E.ga rfl rfl rfl (E.gd (E.qc ?_)))))))))
      refine E.CG.ret (E.QG.pass_ret (E.QG.block_ret (E.QG.pass_ret (E.QG.pass_ret (E.QG.block_ret (E.QG.pass_ret ?_))))))
      exact E.QG.result rfl rfl ⟨_, rfl, L⟩
     ·refine E.gt rfl rfl rfl rfl (E.gr rfl (E.Runs.pick_f rfl rfl rfl) ?_)
      refine E.gm rfl rfl rfl (E.gr rfl (E.Runs.fieldAddr rfl rfl hu55 rfl (by assumption) rfl) ?_)
      refine E.gr rfl (E.Runs.load rfl rfl hu3 (by first | assumption | exact E.blkc (by assumption) rfl | exact pw_cell_below L (by assumption))) ?_
      refine E.gr rfl (E.Runs.fieldAddr rfl rfl hu36 rfl (by assumption) rfl) ?_
      refine E.gr rfl (E.Runs.load rfl rfl hu3 (by first | assumption | exact E.blkc (by assumption) rfl | exact pw_cell_below L (by assumption))) ?_
      refine E.gr rfl (E.Runs.fieldAddr rfl rfl hu36 rfl (by assumption) rfl) ?_
      refine E.gr rfl (E.Runs.load rfl rfl hu3 (by first | assumption | exact E.blkc (by assumption) rfl | exact pw_cell_below L (by assumption))) ?_
      by_cases h52 : inR x.f3 q.f1 q.f2
      ·refine E.GL.st rfl rfl rfl (E.ST.call rfl ent28 (E.evc rfl (E.evc rfl (E.evc rfl E.evn))) ((within_q x.f3 q.f1 q.f2 true (iff_of_true rfl h52) _).mono ?_))
       rintro e w52 ⟨rfl, l52⟩
       refine ⟨_, rfl, ?_⟩
       replace b2 := blk_below b2 l52
       replace b6 := blk_below b6 l52
       replace b7 := blk_below b7 l52
       replace L := below_step L l52
       refine E.gr rfl (E.Runs.not rfl rfl) ?_
       refine E.gr rfl (E.Runs.pick_f rfl rfl rfl) ?_
       refine E.gm rfl rfl rfl (E.gr rfl (E.Runs.fieldAddr rfl rfl hu55 rfl (by assumption) rfl) ?_)
       refine E.gr rfl (E.Runs.load rfl rfl hu3 (by first | assumption | exact E.blkc (by assumption) rfl | exact pw_cell_below L (by assumption))) ?_
       by_cases h58 : inR x.f4 0 9
       ·refine E.GL.st rfl rfl rfl (E.ST.call rfl ent28 (E.evc rfl (E.evc rfl (E.evc rfl E.evn))) ((within_q x.f4 0 9 true (iff_of_true rfl h58) _).mono ?_))
        rintro e w58 ⟨rfl, l58⟩
        refine ⟨_, rfl, ?_⟩
        replace b2 := blk_below b2 l58
        replace b6 := blk_below b6 l58
        replace b7 := blk_below b7 l58
        replace L := below_step L l58
        refine E.gr rfl (E.Runs.not rfl rfl) ?_
        refine E.gr rfl (E.Runs.pick_f rfl rfl rfl) ?_
        refine E.gm rfl rfl rfl (E.gr rfl (E.Runs.fieldAddr rfl rfl hu55 rfl (by assumption) rfl) ?_)
        refine E.gr rfl (E.Runs.load rfl rfl hu3 (by first | assumption | exact E.blkc (by assumption) rfl | exact pw_cell_below L (by assumption))) ?_
        by_cases h64 : inR x.f5 0 10000000
        ·refine E.GL.st rfl rfl rfl (E.ST.call rfl ent28 (E.evc rfl (E.evc rfl (E.evc rfl E.evn))) ((within_q x.f5 0 10000000 true (iff_of_true rfl h64) _).mono ?_))
         rintro e w64 ⟨rfl, l64⟩
         refine ⟨_, rfl, ?_⟩
         replace b2 := blk_below b2 l64
         replace b6 := blk_below b6 l64
         replace b7 := blk_below b7 l64
         replace L := below_step L l64
         refine E.gr rfl (E.Runs.not rfl rfl) ?_
         refine E.gr rfl (E.Runs.pick_f rfl rfl rfl) ?_
         refine E.gd (E.qc (E.CG.cond_f rfl (E.CG.skip (E.qc (E.cs (E.cl (E.ga rfl rfl rfl (E.gd (E.qc ?_)))))))))
         refine E.CG.block ?_
         have s9_b2 := b2
         have s9_b6 := b6
         have s9_b7 := b7
         have s9_L := L
         refine E.CG.loop (fun (k : Nat) => [(1, .slice m.B V.rs.length m.b), (2, .pointer (some ⟨g2, 0, none⟩)), (6, .pointer (some ⟨g6, 0, none⟩)), (5, .int .i64 i), (9, .int .i64 k)]) (fun k w' => k ≤ i ∧ w'.heap[g2]? = some (.cells #[.int .i64 V.tax, .slice m.A V.cs.length m.a, .slice m.B V.rs.length m.b] 29 (0, 0)) ∧ w'.heap[g6]? = some (.cells #[.int .i64 x.f0, .int .i64 x.f1, .int .i64 x.f2, .int .i64 x.f3, .int .i64 x.f4, .int .i64 x.f5] 55 (0, 0)) ∧ Below w.heap.size w w') (fun k => i - k) 0 (E.subc rfl (E.subc rfl (E.subc rfl (E.subc rfl (E.subc rfl E.subn))))) ⟨Nat.zero_le _, b2, b6, L⟩ ?_
         rintro k w9 ⟨hk, b2, b6, L⟩
         refine E.cs (E.cs (E.cl (E.gm rfl rfl rfl (E.gm rfl rfl rfl ?_))))
         refine E.GL.cmp rfl rfl rfl (fun _ h => (E.Runs.lss rfl rfl rfl h)) (fun h69 => ?_) (fun h69 => ?_)
         ·obtain ⟨y, hy⟩ := get_ex (show k < V.rs.length by omega)
          obtain ⟨ad2, eA2, X2⟩ := rep_at hM.rs hy
          refine E.gd (E.qc (E.CG.cond_t rfl (E.CG.skip (E.qc (E.cs (E.CG.block (E.cs (E.CG.quietF (by kernel_rfl) rfl (by kernel_rfl) (by kernel_rfl) ?_))))))))
          refine E.GQ.run rfl rfl rfl (E.Runs.move rfl rfl) ?_
          refine E.GQ.run rfl rfl rfl (E.Runs.move rfl rfl) ?_
          refine E.GQ.run rfl rfl rfl (E.Runs.indexAddrA (i := k) rfl rfl rfl hu27 z55 o55 (by omega) eA2 rfl) ?_
          refine E.GQ.run rfl rfl rfl (E.Runs.fieldAddr rfl rfl hu55 rfl (by assumption) rfl) ?_
          refine E.GQ.run rfl rfl rfl (E.Runs.load rfl rfl hu3 (pw_cell_below L (X2 0 _ rfl))) ?_
          refine E.GQ.run rfl rfl rfl (E.Runs.fieldAddr rfl rfl hu55 rfl (by assumption) rfl) ?_
          refine E.GQ.run rfl rfl rfl (E.Runs.load rfl rfl hu3 (by first | assumption | exact E.blkc (by assumption) rfl | exact pw_cell_below L (by assumption))) ?_
          refine E.GQ.cmp rfl rfl rfl (fun _ h => (E.Runs.eql rfl rfl rfl h)) (fun h79 => ?_) (fun h79 => ?_)
          ·refine E.GQ.run rfl rfl rfl (E.Runs.move rfl rfl) ?_
           refine E.GQ.run rfl rfl rfl (E.Runs.move rfl rfl) ?_
           refine E.GQ.run rfl rfl rfl (E.Runs.move rfl rfl) ?_
           refine E.GQ.run rfl rfl rfl (E.Runs.indexAddrA (i := k) rfl rfl rfl hu27 z55 o55 (by omega) eA2 rfl) ?_
           refine E.GQ.run rfl rfl rfl (E.Runs.loads (cs := [.int .i64 y.f0, .int .i64 y.f1, .int .i64 y.f2, .int .i64 y.f3, .int .i64 y.f4, .int .i64 y.f5]) rfl rfl hu55 rfl info55s (fun j v hv => pw_cell_below L (X2 j v hv))) ?_
           refine E.GQ.run rfl rfl rfl (E.Runs.loads (cs := [.int .i64 x.f0, .int .i64 x.f1, .int .i64 x.f2, .int .i64 x.f3, .int .i64 x.f4, .int .i64 x.f5]) rfl rfl hu55 rfl info55s (blk_cells b6)) ?_
           by_cases hxy86 : y = x
           ·refine E.GQ.run rfl rfl rfl (E.Runs.neqv rfl rfl rfl rfl (fun _ _ W => run_eqGuard_agg W _ _ _ _ _ _ Try.eqGuardType55) (fun W => (equal55 y x W).trans (by rw [decide_eq_true hxy86])) rfl) ?_
            refine E.GQ.run rfl rfl rfl (E.Runs.pick_t rfl rfl rfl) ?_
            refine E.GQ.doneB fun v11 lD => ?_
            replace b2 := blk_below b2 lD
            replace b6 := blk_below b6 lD
            replace L := below_step L lD
            have lD11 := lD
            clear lD
            refine E.qc (E.CG.cond_f rfl (E.CG.skip (E.QG.block_normal (E.qc (E.cl (E.gm rfl rfl rfl (E.gr rfl (E.Runs.add rfl rfl rfl (IntWalk.i64_in _ (by omega))) ?_)))))))
            refine E.ga rfl rfl rfl (E.gd ?_)
            exact E.QG.round (k + 1) (E.subc rfl (E.subc rfl (E.subc rfl (E.subc rfl (E.subc rfl E.subn))))) ⟨by omega, b2, b6, L⟩ (by omega)
           ·refine E.GQ.run rfl rfl rfl (E.Runs.neqv rfl rfl rfl rfl (fun _ _ W => run_eqGuard_agg W _ _ _ _ _ _ Try.eqGuardType55) (fun W => (equal55 y x W).trans (by rw [decide_eq_false hxy86])) rfl) ?_
            refine E.GQ.run rfl rfl rfl (E.Runs.pick_t rfl rfl rfl) ?_
            refine E.GQ.doneB fun v11 lD => ?_
            replace b2 := blk_below b2 lD
            replace b6 := blk_below b6 lD
            replace L := below_step L lD
            have lD11 := lD
            clear lD
            refine E.qc (E.CG.cond_t rfl (E.cs (E.cl (E.ga rfl rfl rfl (E.gd (E.qc (E.CG.ret (E.QG.block_ret (E.QG.pass_ret ?_)))))))))
            refine E.QG.pass_ret (E.QG.block_ret (E.QG.block_ret (E.QG.pass_ret (E.QG.pass_ret (E.QG.block_ret (E.QG.pass_ret ?_))))))
            exact E.QG.result rfl rfl ⟨_, rfl, L⟩
          ·refine E.GQ.run rfl rfl rfl (E.Runs.move rfl rfl) ?_
           refine E.GQ.skip rfl rfl rfl ?_
           refine E.GQ.skip rfl rfl rfl ?_
           refine E.GQ.skip rfl rfl rfl ?_
           refine E.GQ.skip rfl rfl rfl ?_
           refine E.GQ.skip rfl rfl rfl ?_
           refine E.GQ.skip rfl rfl rfl ?_
           refine E.GQ.run rfl rfl rfl (E.Runs.pick_f rfl rfl rfl) ?_
           refine E.GQ.doneB fun v11 lD => ?_
           replace b2 := blk_below b2 lD
           replace b6 := blk_below b6 lD
           replace L := below_step L lD
           have lD11 := lD
           clear lD
           refine E.qc (E.CG.cond_f rfl (E.CG.skip (E.QG.block_normal (E.qc (E.cl (E.gm rfl rfl rfl (E.gr rfl (E.Runs.add rfl rfl rfl (IntWalk.i64_in _ (by omega))) ?_)))))))
           refine E.ga rfl rfl rfl (E.gd ?_)
           exact E.QG.round (k + 1) (E.subc rfl (E.subc rfl (E.subc rfl (E.subc rfl (E.subc rfl E.subn))))) ⟨by omega, b2, b6, L⟩ (by omega)
         ·refine E.gd (E.qc (E.CG.cond_f rfl (E.CG.exit (E.QG.pass_exit (E.QG.pass_exit (E.QG.block_here (E.QG.block_normal (E.qc (E.cl ?_)))))))))
          refine E.gm rfl rfl rfl (E.gr rfl (E.Runs.add rfl rfl rfl (IntWalk.i64_in _ (by omega))) ?_)
          refine E.ga rfl rfl rfl (E.gd ?_)
          exact E.QG.round (i + 1) (E.subc rfl (E.subc rfl (E.subc rfl E.subn))) ⟨by omega, b2, L⟩ (by omega)
        ·refine E.GL.st rfl rfl rfl (E.ST.call rfl ent28 (E.evc rfl (E.evc rfl (E.evc rfl E.evn))) ((within_q x.f5 0 10000000 false (iff_of_false Bool.false_ne_true h64) _).mono ?_))
         rintro e w64 ⟨rfl, l64⟩
         refine ⟨_, rfl, ?_⟩
         replace b2 := blk_below b2 l64
         replace b6 := blk_below b6 l64
         replace b7 := blk_below b7 l64
         replace L := below_step L l64
         refine E.gr rfl (E.Runs.not rfl rfl) ?_
         refine E.gr rfl (E.Runs.pick_f rfl rfl rfl) ?_
         refine E.gd (E.qc (E.CG.cond_t rfl (E.cs (E.cl (E.ga rfl rfl rfl (E.gd (E.qc (E.CG.ret (E.QG.pass_ret ?_)))))))))
         refine E.QG.block_ret (E.QG.pass_ret (E.QG.pass_ret (E.QG.block_ret (E.QG.pass_ret ?_))))
         exact E.QG.result rfl rfl ⟨_, rfl, L⟩
       ·refine E.GL.st rfl rfl rfl (E.ST.call rfl ent28 (E.evc rfl (E.evc rfl (E.evc rfl E.evn))) ((within_q x.f4 0 9 false (iff_of_false Bool.false_ne_true h58) _).mono ?_))
        rintro e w58 ⟨rfl, l58⟩
        refine ⟨_, rfl, ?_⟩
        replace b2 := blk_below b2 l58
        replace b6 := blk_below b6 l58
        replace b7 := blk_below b7 l58
        replace L := below_step L l58
        refine E.gr rfl (E.Runs.not rfl rfl) ?_
        refine E.gr rfl (E.Runs.pick_f rfl rfl rfl) ?_
        refine E.gm rfl rfl rfl (E.gk rfl (E.gk rfl (E.gk rfl (E.gk rfl (E.gt rfl rfl rfl rfl (E.gd (E.qc (E.CG.cond_t rfl (E.cs ?_)))))))))
        refine E.cl (E.ga rfl rfl rfl (E.gd (E.qc (E.CG.ret (E.QG.pass_ret (E.QG.block_ret (E.QG.pass_ret (E.QG.pass_ret (E.QG.block_ret ?_)))))))))
        refine E.QG.pass_ret ?_
        exact E.QG.result rfl rfl ⟨_, rfl, L⟩
      ·refine E.GL.st rfl rfl rfl (E.ST.call rfl ent28 (E.evc rfl (E.evc rfl (E.evc rfl E.evn))) ((within_q x.f3 q.f1 q.f2 false (iff_of_false Bool.false_ne_true h52) _).mono ?_))
       rintro e w52 ⟨rfl, l52⟩
       refine ⟨_, rfl, ?_⟩
       replace b2 := blk_below b2 l52
       replace b6 := blk_below b6 l52
       replace b7 := blk_below b7 l52
       replace L := below_step L l52
       refine E.gr rfl (E.Runs.not rfl rfl) ?_
       refine E.gr rfl (E.Runs.pick_f rfl rfl rfl) ?_
       refine E.gm rfl rfl rfl (E.gk rfl (E.gk rfl (E.gk rfl (E.gk rfl (E.gt rfl rfl rfl rfl (E.gm rfl rfl rfl (E.gk rfl (E.gk rfl (E.gk rfl ?_)))))))))
       refine E.gk rfl (E.gt rfl rfl rfl rfl (E.gd (E.qc (E.CG.cond_t rfl (E.cs (E.cl (E.ga rfl rfl rfl (E.gd (E.qc ?_)))))))))
       refine E.CG.ret (E.QG.pass_ret (E.QG.block_ret (E.QG.pass_ret (E.QG.pass_ret (E.QG.block_ret (E.QG.pass_ret ?_))))))
       exact E.QG.result rfl rfl ⟨_, rfl, L⟩
    ·refine E.gm rfl rfl rfl (E.gk rfl (E.gk rfl (E.gk rfl (E.gr rfl (E.Runs.pick_f rfl rfl rfl) ?_))))
     refine E.gr rfl (E.Runs.pick_f rfl rfl rfl) ?_
     refine E.gm rfl rfl rfl (E.gr rfl (E.Runs.fieldAddr rfl rfl hu55 rfl (by assumption) rfl) ?_)
     refine E.gr rfl (E.Runs.load rfl rfl hu3 (by first | assumption | exact E.blkc (by assumption) rfl | exact pw_cell_below L (by assumption))) ?_
     refine E.gr rfl (E.Runs.fieldAddr rfl rfl hu36 rfl (by assumption) rfl) ?_
     refine E.gr rfl (E.Runs.load rfl rfl hu3 (by first | assumption | exact E.blkc (by assumption) rfl | exact pw_cell_below L (by assumption))) ?_
     refine E.gr rfl (E.Runs.fieldAddr rfl rfl hu36 rfl (by assumption) rfl) ?_
     refine E.gr rfl (E.Runs.load rfl rfl hu3 (by first | assumption | exact E.blkc (by assumption) rfl | exact pw_cell_below L (by assumption))) ?_
     by_cases h52 : inR x.f3 q.f1 q.f2
     ·refine E.GL.st rfl rfl rfl (E.ST.call rfl ent28 (E.evc rfl (E.evc rfl (E.evc rfl E.evn))) ((within_q x.f3 q.f1 q.f2 true (iff_of_true rfl h52) _).mono ?_))
      rintro e w52 ⟨rfl, l52⟩
      refine ⟨_, rfl, ?_⟩
      replace b2 := blk_below b2 l52
      replace b6 := blk_below b6 l52
      replace b7 := blk_below b7 l52
      replace L := below_step L l52
      refine E.gr rfl (E.Runs.not rfl rfl) ?_
      refine E.gr rfl (E.Runs.pick_f rfl rfl rfl) ?_
      refine E.gm rfl rfl rfl (E.gr rfl (E.Runs.fieldAddr rfl rfl hu55 rfl (by assumption) rfl) ?_)
      refine E.gr rfl (E.Runs.load rfl rfl hu3 (by first | assumption | exact E.blkc (by assumption) rfl | exact pw_cell_below L (by assumption))) ?_
      by_cases h58 : inR x.f4 0 9
      ·refine E.GL.st rfl rfl rfl (E.ST.call rfl ent28 (E.evc rfl (E.evc rfl (E.evc rfl E.evn))) ((within_q x.f4 0 9 true (iff_of_true rfl h58) _).mono ?_))
       rintro e w58 ⟨rfl, l58⟩
       refine ⟨_, rfl, ?_⟩
       replace b2 := blk_below b2 l58
       replace b6 := blk_below b6 l58
       replace b7 := blk_below b7 l58
       replace L := below_step L l58
       refine E.gr rfl (E.Runs.not rfl rfl) ?_
       refine E.gr rfl (E.Runs.pick_f rfl rfl rfl) ?_
       refine E.gm rfl rfl rfl (E.gr rfl (E.Runs.fieldAddr rfl rfl hu55 rfl (by assumption) rfl) ?_)
       refine E.gr rfl (E.Runs.load rfl rfl hu3 (by first | assumption | exact E.blkc (by assumption) rfl | exact pw_cell_below L (by assumption))) ?_
       by_cases h64 : inR x.f5 0 10000000
       ·refine E.GL.st rfl rfl rfl (E.ST.call rfl ent28 (E.evc rfl (E.evc rfl (E.evc rfl E.evn))) ((within_q x.f5 0 10000000 true (iff_of_true rfl h64) _).mono ?_))
        rintro e w64 ⟨rfl, l64⟩
        refine ⟨_, rfl, ?_⟩
        replace b2 := blk_below b2 l64
        replace b6 := blk_below b6 l64
        replace b7 := blk_below b7 l64
        replace L := below_step L l64
        refine E.gr rfl (E.Runs.not rfl rfl) ?_
        refine E.gr rfl (E.Runs.pick_f rfl rfl rfl) ?_
        refine E.gd (E.qc (E.CG.cond_f rfl (E.CG.skip (E.qc (E.cs (E.cl (E.ga rfl rfl rfl (E.gd (E.qc ?_)))))))))
        refine E.CG.block ?_
        have s9_b2 := b2
        have s9_b6 := b6
        have s9_b7 := b7
        have s9_L := L
        refine E.CG.loop (fun (k : Nat) => [(1, .slice m.B V.rs.length m.b), (2, .pointer (some ⟨g2, 0, none⟩)), (6, .pointer (some ⟨g6, 0, none⟩)), (5, .int .i64 i), (9, .int .i64 k)]) (fun k w' => k ≤ i ∧ w'.heap[g2]? = some (.cells #[.int .i64 V.tax, .slice m.A V.cs.length m.a, .slice m.B V.rs.length m.b] 29 (0, 0)) ∧ w'.heap[g6]? = some (.cells #[.int .i64 x.f0, .int .i64 x.f1, .int .i64 x.f2, .int .i64 x.f3, .int .i64 x.f4, .int .i64 x.f5] 55 (0, 0)) ∧ Below w.heap.size w w') (fun k => i - k) 0 (E.subc rfl (E.subc rfl (E.subc rfl (E.subc rfl (E.subc rfl E.subn))))) ⟨Nat.zero_le _, b2, b6, L⟩ ?_
        rintro k w9 ⟨hk, b2, b6, L⟩
        refine E.cs (E.cs (E.cl (E.gm rfl rfl rfl (E.gm rfl rfl rfl ?_))))
        refine E.GL.cmp rfl rfl rfl (fun _ h => (E.Runs.lss rfl rfl rfl h)) (fun h69 => ?_) (fun h69 => ?_)
        ·obtain ⟨y, hy⟩ := get_ex (show k < V.rs.length by omega)
         obtain ⟨ad2, eA2, X2⟩ := rep_at hM.rs hy
         refine E.gd (E.qc (E.CG.cond_t rfl (E.CG.skip (E.qc (E.cs (E.CG.block (E.cs (E.CG.quietF (by kernel_rfl) rfl (by kernel_rfl) (by kernel_rfl) ?_))))))))
         refine E.GQ.run rfl rfl rfl (E.Runs.move rfl rfl) ?_
         refine E.GQ.run rfl rfl rfl (E.Runs.move rfl rfl) ?_
         refine E.GQ.run rfl rfl rfl (E.Runs.indexAddrA (i := k) rfl rfl rfl hu27 z55 o55 (by omega) eA2 rfl) ?_
         refine E.GQ.run rfl rfl rfl (E.Runs.fieldAddr rfl rfl hu55 rfl (by assumption) rfl) ?_
         refine E.GQ.run rfl rfl rfl (E.Runs.load rfl rfl hu3 (pw_cell_below L (X2 0 _ rfl))) ?_
         refine E.GQ.run rfl rfl rfl (E.Runs.fieldAddr rfl rfl hu55 rfl (by assumption) rfl) ?_
         refine E.GQ.run rfl rfl rfl (E.Runs.load rfl rfl hu3 (by first | assumption | exact E.blkc (by assumption) rfl | exact pw_cell_below L (by assumption))) ?_
         refine E.GQ.cmp rfl rfl rfl (fun _ h => (E.Runs.eql rfl rfl rfl h)) (fun h79 => ?_) (fun h79 => ?_)
         ·refine E.GQ.run rfl rfl rfl (E.Runs.move rfl rfl) ?_
          refine E.GQ.run rfl rfl rfl (E.Runs.move rfl rfl) ?_
          refine E.GQ.run rfl rfl rfl (E.Runs.move rfl rfl) ?_
          refine E.GQ.run rfl rfl rfl (E.Runs.indexAddrA (i := k) rfl rfl rfl hu27 z55 o55 (by omega) eA2 rfl) ?_
          refine E.GQ.run rfl rfl rfl (E.Runs.loads (cs := [.int .i64 y.f0, .int .i64 y.f1, .int .i64 y.f2, .int .i64 y.f3, .int .i64 y.f4, .int .i64 y.f5]) rfl rfl hu55 rfl info55s (fun j v hv => pw_cell_below L (X2 j v hv))) ?_
          refine E.GQ.run rfl rfl rfl (E.Runs.loads (cs := [.int .i64 x.f0, .int .i64 x.f1, .int .i64 x.f2, .int .i64 x.f3, .int .i64 x.f4, .int .i64 x.f5]) rfl rfl hu55 rfl info55s (blk_cells b6)) ?_
          by_cases hxy86 : y = x
          ·refine E.GQ.run rfl rfl rfl (E.Runs.neqv rfl rfl rfl rfl (fun _ _ W => run_eqGuard_agg W _ _ _ _ _ _ Try.eqGuardType55) (fun W => (equal55 y x W).trans (by rw [decide_eq_true hxy86])) rfl) ?_
           refine E.GQ.run rfl rfl rfl (E.Runs.pick_t rfl rfl rfl) ?_
           refine E.GQ.doneB fun v11 lD => ?_
           replace b2 := blk_below b2 lD
           replace b6 := blk_below b6 lD
           replace L := below_step L lD
           have lD11 := lD
           clear lD
           refine E.qc (E.CG.cond_f rfl (E.CG.skip (E.QG.block_normal (E.qc (E.cl (E.gm rfl rfl rfl (E.gr rfl (E.Runs.add rfl rfl rfl (IntWalk.i64_in _ (by omega))) ?_)))))))
           refine E.ga rfl rfl rfl (E.gd ?_)
           exact E.QG.round (k + 1) (E.subc rfl (E.subc rfl (E.subc rfl (E.subc rfl (E.subc rfl E.subn))))) ⟨by omega, b2, b6, L⟩ (by omega)
          ·refine E.GQ.run rfl rfl rfl (E.Runs.neqv rfl rfl rfl rfl (fun _ _ W => run_eqGuard_agg W _ _ _ _ _ _ Try.eqGuardType55) (fun W => (equal55 y x W).trans (by rw [decide_eq_false hxy86])) rfl) ?_
           refine E.GQ.run rfl rfl rfl (E.Runs.pick_t rfl rfl rfl) ?_
           refine E.GQ.doneB fun v11 lD => ?_
           replace b2 := blk_below b2 lD
           replace b6 := blk_below b6 lD
           replace L := below_step L lD
           have lD11 := lD
           clear lD
           refine E.qc (E.CG.cond_t rfl (E.cs (E.cl (E.ga rfl rfl rfl (E.gd (E.qc (E.CG.ret (E.QG.block_ret (E.QG.pass_ret ?_)))))))))
           refine E.QG.pass_ret (E.QG.block_ret (E.QG.block_ret (E.QG.pass_ret (E.QG.pass_ret (E.QG.block_ret (E.QG.pass_ret ?_))))))
           exact E.QG.result rfl rfl ⟨_, rfl, L⟩
         ·refine E.GQ.run rfl rfl rfl (E.Runs.move rfl rfl) ?_
          refine E.GQ.skip rfl rfl rfl ?_
          refine E.GQ.skip rfl rfl rfl ?_
          refine E.GQ.skip rfl rfl rfl ?_
          refine E.GQ.skip rfl rfl rfl ?_
          refine E.GQ.skip rfl rfl rfl ?_
          refine E.GQ.skip rfl rfl rfl ?_
          refine E.GQ.run rfl rfl rfl (E.Runs.pick_f rfl rfl rfl) ?_
          refine E.GQ.doneB fun v11 lD => ?_
          replace b2 := blk_below b2 lD
          replace b6 := blk_below b6 lD
          replace L := below_step L lD
          have lD11 := lD
          clear lD
          refine E.qc (E.CG.cond_f rfl (E.CG.skip (E.QG.block_normal (E.qc (E.cl (E.gm rfl rfl rfl (E.gr rfl (E.Runs.add rfl rfl rfl (IntWalk.i64_in _ (by omega))) ?_)))))))
          refine E.ga rfl rfl rfl (E.gd ?_)
          exact E.QG.round (k + 1) (E.subc rfl (E.subc rfl (E.subc rfl (E.subc rfl (E.subc rfl E.subn))))) ⟨by omega, b2, b6, L⟩ (by omega)
        ·refine E.gd (E.qc (E.CG.cond_f rfl (E.CG.exit (E.QG.pass_exit (E.QG.pass_exit (E.QG.block_here (E.QG.block_normal (E.qc (E.cl ?_)))))))))
         refine E.gm rfl rfl rfl (E.gr rfl (E.Runs.add rfl rfl rfl (IntWalk.i64_in _ (by omega))) ?_)
         refine E.ga rfl rfl rfl (E.gd ?_)
         exact E.QG.round (i + 1) (E.subc rfl (E.subc rfl (E.subc rfl E.subn))) ⟨by omega, b2, L⟩ (by omega)
       ·refine E.GL.st rfl rfl rfl (E.ST.call rfl ent28 (E.evc rfl (E.evc rfl (E.evc rfl E.evn))) ((within_q x.f5 0 10000000 false (iff_of_false Bool.false_ne_true h64) _).mono ?_))
        rintro e w64 ⟨rfl, l64⟩
        refine ⟨_, rfl, ?_⟩
        replace b2 := blk_below b2 l64
        replace b6 := blk_below b6 l64
        replace b7 := blk_below b7 l64
        replace L := below_step L l64
        refine E.gr rfl (E.Runs.not rfl rfl) ?_
        refine E.gr rfl (E.Runs.pick_f rfl rfl rfl) ?_
        refine E.gd (E.qc (E.CG.cond_t rfl (E.cs (E.cl (E.ga rfl rfl rfl (E.gd (E.qc (E.CG.ret (E.QG.pass_ret ?_)))))))))
        refine E.QG.block_ret (E.QG.pass_ret (E.QG.pass_ret (E.QG.block_ret (E.QG.pass_ret ?_))))
        exact E.QG.result rfl rfl ⟨_, rfl, L⟩
      ·refine E.GL.st rfl rfl rfl (E.ST.call rfl ent28 (E.evc rfl (E.evc rfl (E.evc rfl E.evn))) ((within_q x.f4 0 9 false (iff_of_false Bool.false_ne_true h58) _).mono ?_))
       rintro e w58 ⟨rfl, l58⟩
       refine ⟨_, rfl, ?_⟩
       replace b2 := blk_below b2 l58
       replace b6 := blk_below b6 l58
       replace b7 := blk_below b7 l58
       replace L := below_step L l58
       refine E.gr rfl (E.Runs.not rfl rfl) ?_
       refine E.gr rfl (E.Runs.pick_f rfl rfl rfl) ?_
       refine E.gm rfl rfl rfl (E.gk rfl (E.gk rfl (E.gk rfl (E.gk rfl (E.gt rfl rfl rfl rfl (E.gd (E.qc (E.CG.cond_t rfl (E.cs ?_)))))))))
       refine E.cl (E.ga rfl rfl rfl (E.gd (E.qc (E.CG.ret (E.QG.pass_ret (E.QG.block_ret (E.QG.pass_ret (E.QG.pass_ret (E.QG.block_ret ?_)))))))))
       refine E.QG.pass_ret ?_
       exact E.QG.result rfl rfl ⟨_, rfl, L⟩
     ·refine E.GL.st rfl rfl rfl (E.ST.call rfl ent28 (E.evc rfl (E.evc rfl (E.evc rfl E.evn))) ((within_q x.f3 q.f1 q.f2 false (iff_of_false Bool.false_ne_true h52) _).mono ?_))
      rintro e w52 ⟨rfl, l52⟩
      refine ⟨_, rfl, ?_⟩
      replace b2 := blk_below b2 l52
      replace b6 := blk_below b6 l52
      replace b7 := blk_below b7 l52
      replace L := below_step L l52
      refine E.gr rfl (E.Runs.not rfl rfl) ?_
      refine E.gr rfl (E.Runs.pick_f rfl rfl rfl) ?_
      refine E.gm rfl rfl rfl (E.gk rfl (E.gk rfl (E.gk rfl (E.gk rfl (E.gt rfl rfl rfl rfl (E.gm rfl rfl rfl (E.gk rfl (E.gk rfl (E.gk rfl ?_)))))))))
      refine E.gk rfl (E.gt rfl rfl rfl rfl (E.gd (E.qc (E.CG.cond_t rfl (E.cs (E.cl (E.ga rfl rfl rfl (E.gd (E.qc ?_)))))))))
      refine E.CG.ret (E.QG.pass_ret (E.QG.block_ret (E.QG.pass_ret (E.QG.pass_ret (E.QG.block_ret (E.QG.pass_ret ?_))))))
      exact E.QG.result rfl rfl ⟨_, rfl, L⟩
   ·refine E.GL.st rfl rfl rfl (E.ST.call rfl ent28 (E.evc rfl (E.evc rfl (E.evc rfl E.evn))) ((within_q x.f0 0 99 false (iff_of_false Bool.false_ne_true h32) _).mono ?_))
    rintro e w32 ⟨rfl, l32⟩
    refine ⟨_, rfl, ?_⟩
    replace b2 := blk_below b2 l32
    replace b6 := blk_below b6 l32
    replace b7 := blk_below b7 l32
    replace L := below_step L l32
    refine E.gr rfl (E.Runs.not rfl rfl) ?_
    refine E.gr rfl (E.Runs.pick_f rfl rfl rfl) ?_
    refine E.gm rfl rfl rfl (E.gk rfl (E.gk rfl (E.gk rfl (E.gk rfl (E.gk rfl (E.gk rfl (E.gk rfl (E.gk rfl (E.gt rfl rfl rfl rfl ?_)))))))))
    refine E.gm rfl rfl rfl (E.gk rfl (E.gk rfl (E.gk rfl (E.gk rfl (E.gk rfl (E.gk rfl (E.gk rfl (E.gk rfl (E.gt rfl rfl rfl rfl ?_)))))))))
    refine E.gm rfl rfl rfl (E.gk rfl (E.gk rfl (E.gk rfl (E.gk rfl (E.gt rfl rfl rfl rfl (E.gm rfl rfl rfl (E.gk rfl (E.gk rfl (E.gk rfl ?_)))))))))
    refine E.gk rfl (E.gt rfl rfl rfl rfl (E.gd (E.qc (E.CG.cond_t rfl (E.cs (E.cl (E.ga rfl rfl rfl (E.gd (E.qc ?_)))))))))
    refine E.CG.ret (E.QG.pass_ret (E.QG.block_ret (E.QG.pass_ret (E.QG.pass_ret (E.QG.block_ret (E.QG.pass_ret ?_))))))
    exact E.QG.result rfl rfl ⟨_, rfl, L⟩
 ·refine E.gd (E.qc (E.CG.cond_f rfl (E.CG.exit (E.QG.pass_exit (E.QG.pass_exit (E.QG.block_here (E.qc (E.cs (E.cl ?_)))))))))
  refine E.ga rfl rfl rfl (E.gd (E.qc (E.CG.ret ?_)))
  exact E.QG.result rfl rfl ⟨_, rfl, L⟩

set_option maxRecDepth 100000 in
set_option maxHeartbeats 8000000 in

theorem check8_r (V : Bk) (m : Ba) (w : World) (hM : BM w V m) (hs : Sz V) :
  Calls Try.prog 8 #[bv V m] w fun e w' => ∃ r : Int, e = .returned (.int .i64 r) ∧ (r = 0 → BOk V) ∧ Below w.heap.size w w' := by
 have hu3 := Try.underlying3
 have hu26 := Try.underlying26
 have hu27 := Try.underlying27
 have hu29 := Try.underlying29
 have hu40 := Try.underlying40
 obtain ⟨z26, o26⟩ := info_some info26s (by decide)
 obtain ⟨z27, o27⟩ := info_some info27s (by decide)
 refine E.enter (N := 17) Try.func8 rfl Try.ntmps8 (args := [bv V m]) (by simp) ?_
 have L := Below.refl w.heap.size w
 refine E.cs (E.cl ?_)
 refine E.GL.st rfl rfl rfl (E.ST.box rfl rfl fun g1 w1 e1 b1 l1 => ?_)
 have h1_L : w.heap.size ≤ g1 := by rw [e1]; exact L.size
 replace L := below_step L l1
 refine E.ga rfl rfl rfl (E.gd (E.qc (E.cs (E.cs (E.cl (E.gr rfl (E.Runs.loads (cs := [.int .i64 V.tax, .slice m.A V.cs.length m.a, .slice m.B V.rs.length m.b]) rfl rfl hu29 rfl info29s (blk_cells b1)) ?_))))))
 refine E.GL.st rfl rfl rfl (E.ST.call rfl ent16 (E.evc rfl E.evn) ((areBooks_r V m _ (hM.below L) hs).mono ?_))
 rintro e w4 ⟨r4, rfl, hr4, l4⟩
 refine ⟨_, rfl, ?_⟩
 replace b1 := blk_below b1 l4
 replace L := below_step L l4
 rcases r4 with _ | _
 ·refine E.gr rfl (E.Runs.not rfl rfl) ?_
  refine E.gd (E.qc (E.CG.cond_t rfl (E.cs (E.cl (E.ga rfl rfl rfl (E.gd (E.qc (E.CG.ret (E.QG.pass_ret ?_)))))))))
  exact E.QG.result rfl rfl ⟨_, rfl, (fun q => absurd q (by decide)), L⟩
 ·have hok := hr4 rfl
  refine E.gr rfl (E.Runs.not rfl rfl) ?_
  refine E.gd (E.qc (E.CG.cond_f rfl (E.CG.skip (E.qc (E.cs (E.cs (E.cl (E.gr rfl (E.Runs.fieldAddr rfl rfl hu29 rfl (by assumption) rfl) ?_))))))))
  refine E.gr rfl (E.Runs.load1 rfl rfl hu27 rfl (by first | assumption | exact E.blkc (by assumption) rfl | exact pw_cell_below L (by assumption))) ?_
  refine E.gr rfl (E.Runs.len rfl rfl hu27) ?_
  refine E.GL.cmp rfl rfl rfl (fun _ h => (E.Runs.gtr rfl rfl rfl h)) (fun h9 => ?_) (fun h9 => ?_)
  ·refine E.gm rfl rfl rfl (E.gk rfl (E.gk rfl (E.gk rfl (E.gk rfl (E.gk rfl (E.gt rfl rfl rfl rfl (E.gd (E.qc (E.CG.cond_t rfl ?_)))))))))
   refine E.cs (E.cl (E.ga rfl rfl rfl (E.gd (E.qc (E.CG.ret (E.QG.pass_ret ?_))))))
   exact E.QG.result rfl rfl ⟨_, rfl, (fun q => absurd q (by decide)), L⟩
  ·refine E.gm rfl rfl rfl (E.gr rfl (E.Runs.loads (cs := [.int .i64 V.tax, .slice m.A V.cs.length m.a, .slice m.B V.rs.length m.b]) rfl rfl hu29 rfl info29s (blk_cells b1)) ?_)
   refine E.gr rfl (E.Runs.fieldAddr rfl rfl hu29 rfl (by assumption) rfl) ?_
   refine E.gr rfl (E.Runs.load1 rfl rfl hu27 rfl (by first | assumption | exact E.blkc (by assumption) rfl | exact pw_cell_below L (by assumption))) ?_
   refine E.GL.st rfl rfl rfl (E.ST.call rfl ent17 (E.evc rfl (E.evc rfl E.evn)) ((areReports_r V m _ (hM.below L) hs).mono ?_))
   rintro e w14 ⟨r14, rfl, l14⟩
   refine ⟨_, rfl, ?_⟩
   replace b1 := blk_below b1 l14
   replace L := below_step L l14
   rcases r14 with _ | _
   ·refine E.gr rfl (E.Runs.not rfl rfl) ?_
    refine E.gr rfl (E.Runs.pick_f rfl rfl rfl) ?_
    refine E.gd (E.qc (E.CG.cond_t rfl (E.cs (E.cl (E.ga rfl rfl rfl (E.gd (E.qc (E.CG.ret (E.QG.pass_ret ?_)))))))))
    exact E.QG.result rfl rfl ⟨_, rfl, (fun q => absurd q (by decide)), L⟩
   ·refine E.gr rfl (E.Runs.not rfl rfl) ?_
    refine E.gr rfl (E.Runs.pick_f rfl rfl rfl) ?_
    refine E.gd (E.qc (E.CG.cond_f rfl (E.CG.skip (E.qc (E.cs (E.cl (E.ga rfl rfl rfl (E.gd (E.qc ?_)))))))))
    refine E.CG.ret ?_
    exact E.QG.result rfl rfl ⟨_, rfl, (fun _ => hok), L⟩

end Go.Proofs.Ytkjefnlhhfpllaa.T
namespace Go.Proofs.Ytkjefnlhhfpllaa.T
open Go.RowKit Go.Proofs.YtkjefnlhhfpllaaW.PrintWords Go.Proofs.YtkjefnlhhfpllaaW.PrintMore
open Go.Proofs.Ytkjefnlhhfpllaa.P
set_option linter.unusedVariables false
set_option linter.unusedSimpArgs false

open Go.Proofs.Ytkjefnlhhfpllaa.E (Mf KeyT upd)
/-- A hall: seats by row, and how long an order is held. -/
structure HOk (rows : List Int) (hold : Int) : Prop where
 n : 1 ≤ (rows.length : Int) ∧ (rows.length : Int) ≤ 6
 r : AllR rows 1 12
 h : inR hold 1 600
structure LOk (x : S64) : Prop where
 n : inR x.f0 0 99 ∧ inR x.f1 0 9999 ∧ inR x.f3 0 99
 k : x.f2 = 1 ∧ inR x.f4 1 12 ∨ (x.f2 = 2 ∨ x.f2 = 3) ∧ x.f4 = 0
/-- Calls with one Id are one. -/
def Uq (l : List S64) : Prop := ∀ (i j : Nat) x y, j < i → l[j]? = some x → l[i]? = some y → x.f0 = y.f0 → x = y
structure LsOk (l : List S64) : Prop where
 n : (l.length : Int) ≤ 40
 c : ∀ x ∈ l, LOk x
 u : Uq l
theorem Uq.eq {l : List S64} (h : Uq l) {x y : S64} (hx : x ∈ l) (hy : y ∈ l) (e : x.f0 = y.f0) : x = y := by
 obtain ⟨i, hi⟩ := List.mem_iff_getElem?.mp hx
 obtain ⟨j, hj⟩ := List.mem_iff_getElem?.mp hy
 rcases Nat.lt_trichotomy i j with q | q | q
 ·exact h j i x y q hi hj e
 ·subst q
  rw [hi] at hj
  injection hj
 ·exact (h i j y x q hj hi e.symm).symm
abbrev evL (x : S64) : Value := .agg #[.int .i64 x.f0, .int .i64 x.f1, .int .i64 x.f2, .int .i64 x.f3, .int .i64 x.f4]
theorem hall_one (A : Option Addr) (n c : Nat) (h : Int) : (#[.slice A n c, .int .i64 h] : Array Value).all (·.oneCell') = true := by simp [Value.oneCell']
theorem upd_ok {f : Int → Option S64} {l : List S64} {i : Nat} {x : S64} (hf : ∀ n x, f n = some x → x ∈ l ∧ x.f0 = n) (hx : l[i]? = some x) : ∀ n y, upd f x.f0 x n = some y → y ∈ l ∧ y.f0 = n := fun n y h => by
 unfold upd at h
 split at h
 ·next q =>
  injection h with h
  subst h
  exact ⟨mem_of hx, q.symm⟩
 ·exact hf n y h
theorem int5_one (a b c d e : Int) : (#[.int .i64 a, .int .i64 b, .int .i64 c, .int .i64 d, .int .i64 e] : Array Value).all (·.oneCell') = true := by simp [Value.oneCell']
set_option maxRecDepth 100000 in
set_option maxHeartbeats 8000000 in

theorem isHall_r (rows : List Int) (hold : Int) (A : Option Addr) (a : Nat) (w : World) (hr : Kd.C kI w A rows.length rows) (hn : rows.length ≤ 1000000) :
  Calls Try.prog 14 #[.agg #[.slice A rows.length a, .int .i64 hold]] w fun e w' => ∃ r, e = .returned (.bool r) ∧ (r = true → HOk rows hold) ∧ Below w.heap.size w w' := by
 have hu3 := Try.underlying3
 have hu22 := Try.underlying22
 have hu24 := Try.underlying24
 obtain ⟨z3, o3⟩ := info_some info3s (by decide)
 obtain ⟨z22, o22⟩ := info_some info22s (by decide)
 obtain ⟨z24, o24⟩ := info_some info24s (by decide)
 refine E.enter (N := 27) Try.func14 rfl Try.ntmps14 (args := [.agg #[.slice A rows.length a, .int .i64 hold]]) (by simp) ?_
 have L := Below.refl w.heap.size w
 refine E.cs (E.cl ?_)
 refine E.GL.st rfl rfl rfl (E.ST.box rfl rfl fun g1 w1 e1 b1 l1 => ?_)
 have h1_L : w.heap.size ≤ g1 := by rw [e1]; exact L.size
 replace L := below_step L l1
 refine E.ga rfl rfl rfl (E.gd (E.qc (E.cs (E.cs (E.cl (E.ga rfl rfl rfl (E.gd (E.qc (E.CG.block ?_)))))))))
 have s2_b1 := b1
 have s2_L := L
 refine E.CG.loop (fun (i : Nat) => [(1, .pointer (some ⟨g1, 0, none⟩)), (3, .int .i64 i)]) (fun i w' => i ≤ rows.length ∧ (∀ k, k < i → ∀ x, rows[k]? = some x → 1 ≤ x ∧ x ≤ 12) ∧ w'.heap[g1]? = some (.cells #[.slice A rows.length a, .int .i64 hold] 24 (0, 0)) ∧ Below w.heap.size w w') (fun i => rows.length - i) 0 (E.subc rfl (E.subc rfl E.subn)) ⟨Nat.zero_le _, fun k hk => by omega, b1, L⟩ ?_
 rintro i w2 ⟨hi, hok, b1, L⟩
 refine E.cs (E.cs (E.cl (E.gm rfl rfl rfl (E.gr rfl (E.Runs.fieldAddr rfl rfl hu24 rfl (by assumption) rfl) ?_))))
 refine E.gr rfl (E.Runs.load1 rfl rfl hu22 rfl (by first | assumption | exact E.blkc (by assumption) rfl | exact pw_cell_below L (by assumption))) ?_
 refine E.gr rfl (E.Runs.len rfl rfl hu22) ?_
 refine E.GL.cmp rfl rfl rfl (fun _ h => (E.Runs.lss rfl rfl rfl h)) (fun h8 => ?_) (fun h8 => ?_)
 ·obtain ⟨x, hx⟩ := get_ex (show i < rows.length by omega)
  obtain ⟨ad, eA, X⟩ := int_at hr hx
  refine E.gd (E.qc (E.CG.cond_t rfl (E.CG.skip (E.qc (E.cs (E.CG.block (E.cs (E.cl (E.gr rfl (E.Runs.fieldAddr rfl rfl hu24 rfl (by assumption) rfl) ?_)))))))))
  refine E.gr rfl (E.Runs.load1 rfl rfl hu22 rfl (by first | assumption | exact E.blkc (by assumption) rfl | exact pw_cell_below L (by assumption))) ?_
  refine E.gm rfl rfl rfl (E.gr rfl (E.Runs.indexAddrA (i := i) rfl rfl rfl hu22 z3 o3 (by omega) eA rfl) ?_)
  refine E.gr rfl (E.Runs.load rfl rfl hu3 (pw_cell_below L X)) ?_
  by_cases h16 : inR x 1 12
  ·refine E.GL.st rfl rfl rfl (E.ST.call rfl ent26 (E.evc rfl (E.evc rfl (E.evc rfl E.evn))) ((within_r x 1 12 true (iff_of_true rfl h16) _).mono ?_))
   rintro e w16 ⟨rfl, l16⟩
   refine ⟨_, rfl, ?_⟩
   replace b1 := blk_below b1 l16
   replace L := below_step L l16
   refine E.gr rfl (E.Runs.not rfl rfl) ?_
   refine E.gd (E.qc (E.CG.cond_f rfl (E.CG.skip (E.QG.block_normal (E.qc (E.cl (E.gm rfl rfl rfl (E.gr rfl (E.Runs.add rfl rfl rfl (IntWalk.i64_in _ (by omega))) ?_))))))))
   refine E.ga rfl rfl rfl (E.gd ?_)
   exact E.QG.round (i + 1) (E.subc rfl (E.subc rfl E.subn)) ⟨by omega, all_more hok hx h16, b1, L⟩ (by omega)
  ·refine E.GL.st rfl rfl rfl (E.ST.call rfl ent26 (E.evc rfl (E.evc rfl (E.evc rfl E.evn))) ((within_r x 1 12 false (iff_of_false Bool.false_ne_true h16) _).mono ?_))
   rintro e w16 ⟨rfl, l16⟩
   refine ⟨_, rfl, ?_⟩
   replace b1 := blk_below b1 l16
   replace L := below_step L l16
   refine E.gr rfl (E.Runs.not rfl rfl) ?_
   refine E.gd (E.qc (E.CG.cond_t rfl (E.cs (E.cl (E.ga rfl rfl rfl (E.gd (E.qc (E.CG.ret (E.QG.block_ret ?_)))))))))
   refine E.QG.pass_ret (E.QG.pass_ret (E.QG.block_ret (E.QG.pass_ret ?_)))
   exact E.QG.result rfl rfl ⟨false, rfl, (fun q => by cases q), L⟩
 ·have hall : AllR rows 1 12 := all_done hok (by omega)
  refine E.gd (E.qc (E.CG.cond_f rfl (E.CG.exit (E.QG.pass_exit (E.QG.pass_exit (E.QG.block_here (E.qc (E.cs (E.cl ?_)))))))))
  refine E.gr rfl (E.Runs.fieldAddr rfl rfl hu24 rfl (by assumption) rfl) ?_
  refine E.gr rfl (E.Runs.load1 rfl rfl hu22 rfl (by first | assumption | exact E.blkc (by assumption) rfl | exact pw_cell_below L (by assumption))) ?_
  refine E.gr rfl (E.Runs.len rfl rfl hu22) ?_
  by_cases h21 : inR (rows.length : Int) 1 6
  ·refine E.GL.st rfl rfl rfl (E.ST.call rfl ent26 (E.evc rfl (E.evc rfl (E.evc rfl E.evn))) ((within_r (rows.length : Int) 1 6 true (iff_of_true rfl h21) _).mono ?_))
   rintro e w21 ⟨rfl, l21⟩
   refine ⟨_, rfl, ?_⟩
   replace b1 := blk_below b1 l21
   replace L := below_step L l21
   refine E.gm rfl rfl rfl (E.gr rfl (E.Runs.fieldAddr rfl rfl hu24 rfl (by assumption) rfl) ?_)
   refine E.gr rfl (E.Runs.load rfl rfl hu3 (by first | assumption | exact E.blkc (by assumption) rfl | exact pw_cell_below L (by assumption))) ?_
   by_cases h25 : inR hold 1 600
   ·refine E.GL.st rfl rfl rfl (E.ST.call rfl ent26 (E.evc rfl (E.evc rfl (E.evc rfl E.evn))) ((within_r hold 1 600 true (iff_of_true rfl h25) _).mono ?_))
    rintro e w25 ⟨rfl, l25⟩
    refine ⟨_, rfl, ?_⟩
    replace b1 := blk_below b1 l25
    replace L := below_step L l25
    refine E.gt rfl rfl rfl rfl (E.ga rfl rfl rfl (E.gd (E.qc (E.CG.ret ?_))))
    exact E.QG.result rfl rfl ⟨true, rfl, (fun _ => ⟨h21, hall, h25⟩), L⟩
   ·refine E.GL.st rfl rfl rfl (E.ST.call rfl ent26 (E.evc rfl (E.evc rfl (E.evc rfl E.evn))) ((within_r hold 1 600 false (iff_of_false Bool.false_ne_true h25) _).mono ?_))
    rintro e w25 ⟨rfl, l25⟩
    refine ⟨_, rfl, ?_⟩
    replace b1 := blk_below b1 l25
    replace L := below_step L l25
    refine E.gt rfl rfl rfl rfl (E.ga rfl rfl rfl (E.gd (E.qc (E.CG.ret ?_))))
    exact E.QG.result rfl rfl ⟨false, rfl, (fun q => by cases q), L⟩
  ·refine E.GL.st rfl rfl rfl (E.ST.call rfl ent26 (E.evc rfl (E.evc rfl (E.evc rfl E.evn))) ((within_r (rows.length : Int) 1 6 false (iff_of_false Bool.false_ne_true h21) _).mono ?_))
   rintro e w21 ⟨rfl, l21⟩
   refine ⟨_, rfl, ?_⟩
   replace b1 := blk_below b1 l21
   replace L := below_step L l21
   refine E.gm rfl rfl rfl (E.gk rfl (E.gk rfl (E.gk rfl (E.gr rfl (E.Runs.pick_f rfl rfl rfl) ?_))))
   refine E.ga rfl rfl rfl (E.gd (E.qc (E.CG.ret ?_)))
   exact E.QG.result rfl rfl ⟨false, rfl, (fun q => by cases q), L⟩

set_option maxRecDepth 100000 in
set_option maxHeartbeats 8000000 in

theorem isCall_r (x : S64) (w : World) :
  Calls Try.prog 15 #[.agg #[.int .i64 x.f0, .int .i64 x.f1, .int .i64 x.f2, .int .i64 x.f3, .int .i64 x.f4]] w fun e w' => ∃ r, e = .returned (.bool r) ∧ (r = true → LOk x) ∧ Below w.heap.size w w' := by
 have hu3 := Try.underlying3
 have hu64 := Try.underlying64
 obtain ⟨z3, o3⟩ := info_some info3s (by decide)
 obtain ⟨z64, o64⟩ := info_some info64s (by decide)
 refine E.enter (N := 38) Try.func15 rfl Try.ntmps15 (args := [.agg #[.int .i64 x.f0, .int .i64 x.f1, .int .i64 x.f2, .int .i64 x.f3, .int .i64 x.f4]]) (by simp) ?_
 have L := Below.refl w.heap.size w
 refine E.cs (E.cl ?_)
 refine E.GL.st rfl rfl rfl (E.ST.box rfl rfl fun g1 w1 e1 b1 l1 => ?_)
 have h1_L : w.heap.size ≤ g1 := by rw [e1]; exact L.size
 replace L := below_step L l1
 refine E.ga rfl rfl rfl (E.gd (E.qc (E.cs (E.cs (E.cl (E.gr rfl (E.Runs.fieldAddr rfl rfl hu64 rfl (by assumption) rfl) ?_))))))
 refine E.gr rfl (E.Runs.load rfl rfl hu3 (by first | assumption | exact E.blkc (by assumption) rfl | exact pw_cell_below L (by assumption))) ?_
 by_cases h5 : inR x.f0 0 99
 ·refine E.GL.st rfl rfl rfl (E.ST.call rfl ent26 (E.evc rfl (E.evc rfl (E.evc rfl E.evn))) ((within_r x.f0 0 99 true (iff_of_true rfl h5) _).mono ?_))
  rintro e w5 ⟨rfl, l5⟩
  refine ⟨_, rfl, ?_⟩
  replace b1 := blk_below b1 l5
  replace L := below_step L l5
  refine E.gr rfl (E.Runs.not rfl rfl) ?_
  refine E.gm rfl rfl rfl (E.gr rfl (E.Runs.fieldAddr rfl rfl hu64 rfl (by assumption) rfl) ?_)
  refine E.gr rfl (E.Runs.load rfl rfl hu3 (by first | assumption | exact E.blkc (by assumption) rfl | exact pw_cell_below L (by assumption))) ?_
  by_cases h10 : inR x.f1 0 9999
  ·refine E.GL.st rfl rfl rfl (E.ST.call rfl ent26 (E.evc rfl (E.evc rfl (E.evc rfl E.evn))) ((within_r x.f1 0 9999 true (iff_of_true rfl h10) _).mono ?_))
   rintro e w10 ⟨rfl, l10⟩
   refine ⟨_, rfl, ?_⟩
   replace b1 := blk_below b1 l10
   replace L := below_step L l10
   refine E.gr rfl (E.Runs.not rfl rfl) ?_
   refine E.gr rfl (E.Runs.pick_f rfl rfl rfl) ?_
   refine E.gm rfl rfl rfl (E.gr rfl (E.Runs.fieldAddr rfl rfl hu64 rfl (by assumption) rfl) ?_)
   refine E.gr rfl (E.Runs.load rfl rfl hu3 (by first | assumption | exact E.blkc (by assumption) rfl | exact pw_cell_below L (by assumption))) ?_
   by_cases h16 : inR x.f3 0 99
   ·refine E.GL.st rfl rfl rfl (E.ST.call rfl ent26 (E.evc rfl (E.evc rfl (E.evc rfl E.evn))) ((within_r x.f3 0 99 true (iff_of_true rfl h16) _).mono ?_))
    rintro e w16 ⟨rfl, l16⟩
    refine ⟨_, rfl, ?_⟩
    replace b1 := blk_below b1 l16
    replace L := below_step L l16
    refine E.gr rfl (E.Runs.not rfl rfl) ?_
    refine E.gr rfl (E.Runs.pick_f rfl rfl rfl) ?_
    refine E.gd (E.qc (E.CG.cond_f rfl (E.CG.skip (E.qc (E.cs (E.cs (E.cl (E.gr rfl (E.Runs.fieldAddr rfl rfl hu64 rfl (by assumption) rfl) ?_))))))))
    refine E.gr rfl (E.Runs.load rfl rfl hu3 (by first | assumption | exact E.blkc (by assumption) rfl | exact pw_cell_below L (by assumption))) ?_
    refine E.GL.cmp rfl rfl rfl (fun _ h => (E.Runs.eql rfl rfl rfl h)) (fun h21 => ?_) (fun h21 => ?_)
    ·refine E.gd (E.qc (E.CG.cond_t rfl (E.cs (E.cl (E.gr rfl (E.Runs.fieldAddr rfl rfl hu64 rfl (by assumption) rfl) ?_)))))
     refine E.gr rfl (E.Runs.load rfl rfl hu3 (by first | assumption | exact E.blkc (by assumption) rfl | exact pw_cell_below L (by assumption))) ?_
     by_cases h24 : inR x.f4 1 12
     ·refine E.GL.st rfl rfl rfl (E.ST.call rfl ent26 (E.evc rfl (E.evc rfl (E.evc rfl E.evn))) ((within_r x.f4 1 12 true (iff_of_true rfl h24) _).mono ?_))
      rintro e w24 ⟨rfl, l24⟩
      refine ⟨_, rfl, ?_⟩
      replace b1 := blk_below b1 l24
      replace L := below_step L l24
      refine E.ga rfl rfl rfl (E.gd (E.qc (E.CG.ret (E.QG.pass_ret ?_))))
      exact E.QG.result rfl rfl ⟨true, rfl, (fun _ => ⟨⟨h5, h10, h16⟩, .inl ⟨h21, h24⟩⟩), L⟩
     ·refine E.GL.st rfl rfl rfl (E.ST.call rfl ent26 (E.evc rfl (E.evc rfl (E.evc rfl E.evn))) ((within_r x.f4 1 12 false (iff_of_false Bool.false_ne_true h24) _).mono ?_))
      rintro e w24 ⟨rfl, l24⟩
      refine ⟨_, rfl, ?_⟩
      replace b1 := blk_below b1 l24
      replace L := below_step L l24
      refine E.ga rfl rfl rfl (E.gd (E.qc (E.CG.ret (E.QG.pass_ret ?_))))
      exact E.QG.result rfl rfl ⟨false, rfl, (fun q => by cases q), L⟩
    ·refine E.gd (E.qc (E.CG.cond_f rfl (E.CG.skip (E.qc (E.cs (E.cl (E.gr rfl (E.Runs.fieldAddr rfl rfl hu64 rfl (by assumption) rfl) ?_)))))))
     refine E.gr rfl (E.Runs.load rfl rfl hu3 (by first | assumption | exact E.blkc (by assumption) rfl | exact pw_cell_below L (by assumption))) ?_
     refine E.GL.cmp rfl rfl rfl (fun _ h => (E.Runs.eql rfl rfl rfl h)) (fun h27 => ?_) (fun h27 => ?_)
     ·refine E.gm rfl rfl rfl (E.gk rfl (E.gk rfl (E.gk rfl (E.gt rfl rfl rfl rfl (E.gm rfl rfl rfl (E.gr rfl (E.Runs.fieldAddr rfl rfl hu64 rfl (by assumption) rfl) ?_))))))
      refine E.gr rfl (E.Runs.load rfl rfl hu3 (by first | assumption | exact E.blkc (by assumption) rfl | exact pw_cell_below L (by assumption))) ?_
      refine E.GL.cmp rfl rfl rfl (fun _ h => (E.Runs.eql rfl rfl rfl h)) (fun h36 => ?_) (fun h36 => ?_)
      ·refine E.gt rfl rfl rfl rfl (E.ga rfl rfl rfl (E.gd (E.qc (E.CG.ret ?_))))
       exact E.QG.result rfl rfl ⟨true, rfl, (fun _ => ⟨⟨h5, h10, h16⟩, .inr ⟨.inl h27, h36⟩⟩), L⟩
      ·refine E.gt rfl rfl rfl rfl (E.ga rfl rfl rfl (E.gd (E.qc (E.CG.ret ?_))))
       exact E.QG.result rfl rfl ⟨false, rfl, (fun q => by cases q), L⟩
     ·refine E.gm rfl rfl rfl (E.gr rfl (E.Runs.fieldAddr rfl rfl hu64 rfl (by assumption) rfl) ?_)
      refine E.gr rfl (E.Runs.load rfl rfl hu3 (by first | assumption | exact E.blkc (by assumption) rfl | exact pw_cell_below L (by assumption))) ?_
      refine E.GL.cmp rfl rfl rfl (fun _ h => (E.Runs.eql rfl rfl rfl h)) (fun h31 => ?_) (fun h31 => ?_)
      ·refine E.gr rfl (E.Runs.pick_f rfl rfl rfl) ?_
       refine E.gm rfl rfl rfl (E.gr rfl (E.Runs.fieldAddr rfl rfl hu64 rfl (by assumption) rfl) ?_)
       refine E.gr rfl (E.Runs.load rfl rfl hu3 (by first | assumption | exact E.blkc (by assumption) rfl | exact pw_cell_below L (by assumption))) ?_
       refine E.GL.cmp rfl rfl rfl (fun _ h => (E.Runs.eql rfl rfl rfl h)) (fun h36 => ?_) (fun h36 => ?_)
       ·refine E.gt rfl rfl rfl rfl (E.ga rfl rfl rfl (E.gd (E.qc (E.CG.ret ?_))))
        exact E.QG.result rfl rfl ⟨true, rfl, (fun _ => ⟨⟨h5, h10, h16⟩, .inr ⟨.inr h31, h36⟩⟩), L⟩
       ·refine E.gt rfl rfl rfl rfl (E.ga rfl rfl rfl (E.gd (E.qc (E.CG.ret ?_))))
        exact E.QG.result rfl rfl ⟨false, rfl, (fun q => by cases q), L⟩
      ·refine E.gr rfl (E.Runs.pick_f rfl rfl rfl) ?_
       refine E.gm rfl rfl rfl (E.gk rfl (E.gk rfl (E.gk rfl (E.gr rfl (E.Runs.pick_f rfl rfl rfl) ?_))))
       refine E.ga rfl rfl rfl (E.gd (E.qc (E.CG.ret ?_)))
       exact E.QG.result rfl rfl ⟨false, rfl, (fun q => by cases q), L⟩
   ·refine E.GL.st rfl rfl rfl (E.ST.call rfl ent26 (E.evc rfl (E.evc rfl (E.evc rfl E.evn))) ((within_r x.f3 0 99 false (iff_of_false Bool.false_ne_true h16) _).mono ?_))
    rintro e w16 ⟨rfl, l16⟩
    refine ⟨_, rfl, ?_⟩
    replace b1 := blk_below b1 l16
    replace L := below_step L l16
    refine E.gr rfl (E.Runs.not rfl rfl) ?_
    refine E.gr rfl (E.Runs.pick_f rfl rfl rfl) ?_
    refine E.gd (E.qc (E.CG.cond_t rfl (E.cs (E.cl (E.ga rfl rfl rfl (E.gd (E.qc (E.CG.ret (E.QG.pass_ret ?_)))))))))
    exact E.QG.result rfl rfl ⟨false, rfl, (fun q => by cases q), L⟩
  ·refine E.GL.st rfl rfl rfl (E.ST.call rfl ent26 (E.evc rfl (E.evc rfl (E.evc rfl E.evn))) ((within_r x.f1 0 9999 false (iff_of_false Bool.false_ne_true h10) _).mono ?_))
   rintro e w10 ⟨rfl, l10⟩
   refine ⟨_, rfl, ?_⟩
   replace b1 := blk_below b1 l10
   replace L := below_step L l10
   refine E.gr rfl (E.Runs.not rfl rfl) ?_
   refine E.gr rfl (E.Runs.pick_f rfl rfl rfl) ?_
   refine E.gm rfl rfl rfl (E.gk rfl (E.gk rfl (E.gk rfl (E.gk rfl (E.gt rfl rfl rfl rfl (E.gd (E.qc (E.CG.cond_t rfl (E.cs ?_)))))))))
   refine E.cl (E.ga rfl rfl rfl (E.gd (E.qc (E.CG.ret (E.QG.pass_ret ?_)))))
   exact E.QG.result rfl rfl ⟨false, rfl, (fun q => by cases q), L⟩
 ·refine E.GL.st rfl rfl rfl (E.ST.call rfl ent26 (E.evc rfl (E.evc rfl (E.evc rfl E.evn))) ((within_r x.f0 0 99 false (iff_of_false Bool.false_ne_true h5) _).mono ?_))
  rintro e w5 ⟨rfl, l5⟩
  refine ⟨_, rfl, ?_⟩
  replace b1 := blk_below b1 l5
  replace L := below_step L l5
  refine E.gr rfl (E.Runs.not rfl rfl) ?_
  refine E.gm rfl rfl rfl (E.gk rfl (E.gk rfl (E.gk rfl (E.gk rfl (E.gt rfl rfl rfl rfl (E.gm rfl rfl rfl (E.gk rfl (E.gk rfl (E.gk rfl ?_)))))))))
  refine E.gk rfl (E.gt rfl rfl rfl rfl (E.gd (E.qc (E.CG.cond_t rfl (E.cs (E.cl (E.ga rfl rfl rfl (E.gd (E.qc ?_)))))))))
  refine E.CG.ret (E.QG.pass_ret ?_)
  exact E.QG.result rfl rfl ⟨false, rfl, (fun q => by cases q), L⟩

set_option maxRecDepth 100000 in
set_option maxHeartbeats 8000000 in

theorem check4_r (rows : List Int) (hold : Int) (A : Option Addr) (a : Nat) (w : World) (hr : Kd.C kI w A rows.length rows) (hn : rows.length ≤ 1000000) (l : List S64) (B : Option Addr) (b : Nat) (hl : Kd.C k64 w B l.length l) :
  Calls Try.prog 6 #[.agg #[.slice A rows.length a, .int .i64 hold], .slice B l.length b] w fun e w' => ∃ r : Int, e = .returned (.int .i64 r) ∧ (r = 0 → HOk rows hold ∧ LsOk l) ∧ Below w.heap.size w w' := by
 have hu3 := Try.underlying3
 have hu22 := Try.underlying22
 have hu24 := Try.underlying24
 have hu25 := Try.underlying25
 have hu40 := Try.underlying40
 have hu64 := Try.underlying64
 obtain ⟨z3, o3⟩ := info_some info3s (by decide)
 obtain ⟨z25, o25⟩ := info_some info25s (by decide)
 obtain ⟨z64, o64⟩ := info_some info64s (by decide)
 have hlm := Kd.C_max hl
 refine E.enter (N := 52) Try.func6 rfl Try.ntmps6 (args := [.agg #[.slice A rows.length a, .int .i64 hold], .slice B l.length b]) (by simp) ?_
 have L := Below.refl w.heap.size w
 refine E.cs (E.cl ?_)
 refine E.GL.st rfl rfl rfl (E.ST.box rfl rfl fun g2 w2 e2 b2 l2 => ?_)
 have h2_L : w.heap.size ≤ g2 := by rw [e2]; exact L.size
 replace L := below_step L l2
 refine E.ga rfl rfl rfl (E.gd (E.qc (E.cs (E.cs (E.cl (E.gr rfl (E.Runs.loads (cs := [.slice A rows.length a, .int .i64 hold]) rfl rfl hu24 rfl info24s (blk_cells b2)) ?_))))))
 refine E.GL.st rfl rfl rfl (E.ST.call rfl ent14 (E.evc rfl E.evn) ((isHall_r rows hold A a _ (Kd.C_below hr L) hn).mono ?_))
 rintro e w8 ⟨r8, rfl, hr8, l8⟩
 refine ⟨_, rfl, ?_⟩
 replace b2 := blk_below b2 l8
 replace L := below_step L l8
 rcases r8 with _ | _
 ·refine E.gr rfl (E.Runs.not rfl rfl) ?_
  refine E.gd (E.qc (E.CG.cond_t rfl (E.cs (E.cl (E.ga rfl rfl rfl (E.gd (E.qc (E.CG.ret (E.QG.pass_ret ?_)))))))))
  exact E.QG.result rfl rfl ⟨_, rfl, (fun q => absurd q (by decide)), L⟩
 ·have hok := hr8 rfl
  refine E.gr rfl (E.Runs.not rfl rfl) ?_
  refine E.gd (E.qc (E.CG.cond_f rfl (E.CG.skip (E.qc (E.cs (E.cs (E.cl (E.gm rfl rfl rfl (E.gr rfl (E.Runs.len rfl rfl hu25) ?_)))))))))
  refine E.GL.cmp rfl rfl rfl (fun _ h => (E.Runs.gtr rfl rfl rfl h)) (fun h12 => ?_) (fun h12 => ?_)
  ·refine E.gd (E.qc (E.CG.cond_t rfl (E.cs (E.cl (E.ga rfl rfl rfl (E.gd (E.qc (E.CG.ret (E.QG.pass_ret ?_)))))))))
   exact E.QG.result rfl rfl ⟨_, rfl, (fun q => absurd q (by decide)), L⟩
  ·refine E.gd (E.qc (E.CG.cond_f rfl (E.CG.skip (E.qc (E.cs (E.cs (E.cl (E.ga rfl rfl rfl (E.gd ?_)))))))))
   refine E.qc (E.CG.block ?_)
   have s6_b2 := b2
   have s6_L := L
   refine E.CG.loop (fun (i : Nat) => [(1, .slice B l.length b), (5, .int .i64 i)]) (fun i w' => i ≤ l.length ∧ (∀ k, k < i → ∀ x, l[k]? = some x → LOk x ∧ ∀ j, j < k → ∀ y, l[j]? = some y → y.f0 = x.f0 → y = x) ∧ Below w.heap.size w w') (fun i => l.length - i) 0 (E.subc rfl (E.subc rfl E.subn)) ⟨Nat.zero_le _, fun k hk => by omega, L⟩ ?_
   rintro i w6 ⟨hi, hall, L⟩
   refine E.cs (E.cs (E.cl (E.gm rfl rfl rfl (E.gm rfl rfl rfl (E.gr rfl (E.Runs.len rfl rfl hu25) ?_)))))
   refine E.GL.cmp rfl rfl rfl (fun _ h => (E.Runs.lss rfl rfl rfl h)) (fun h16 => ?_) (fun h16 => ?_)
   ·obtain ⟨x, hx⟩ := get_ex (show i < l.length by omega)
    obtain ⟨ad, eA, X⟩ := call_at hl hx
    refine E.gd (E.qc (E.CG.cond_t rfl (E.CG.skip (E.qc (E.cs (E.CG.block (E.cs (E.cs (E.cl ?_)))))))))
    refine E.gm rfl rfl rfl (E.gm rfl rfl rfl (E.gr rfl (E.Runs.indexAddrA (i := i) rfl rfl rfl hu25 z64 o64 (by omega) eA rfl) ?_))
    refine E.gr rfl (E.Runs.loads (cs := [.int .i64 x.f0, .int .i64 x.f1, .int .i64 x.f2, .int .i64 x.f3, .int .i64 x.f4]) rfl rfl hu64 rfl info64s (fun j v hv => pw_cell_below L (X j v hv))) ?_
    refine E.GL.st rfl rfl rfl (E.ST.call rfl ent15 (E.evc rfl E.evn) ((isCall_r x _).mono ?_))
    rintro e w23 ⟨r23, rfl, hr23, l23⟩
    refine ⟨_, rfl, ?_⟩
    replace L := below_step L l23
    rcases r23 with _ | _
    ·refine E.gr rfl (E.Runs.not rfl rfl) ?_
     refine E.gd (E.qc (E.CG.cond_t rfl (E.cs (E.cl (E.ga rfl rfl rfl (E.gd (E.qc (E.CG.ret (E.QG.pass_ret ?_)))))))))
     refine E.QG.block_ret (E.QG.pass_ret (E.QG.pass_ret (E.QG.block_ret (E.QG.pass_ret ?_))))
     exact E.QG.result rfl rfl ⟨_, rfl, (fun q => absurd q (by decide)), L⟩
    ·have hxk := hr23 rfl
     refine E.gr rfl (E.Runs.not rfl rfl) ?_
     refine E.gd (E.qc (E.CG.cond_f rfl (E.CG.skip (E.qc (E.cs (E.cl (E.ga rfl rfl rfl (E.gd (E.qc ?_)))))))))
     refine E.CG.block ?_
     have s11_L := L
     refine E.CG.loop (fun (k : Nat) => [(1, .slice B l.length b), (5, .int .i64 i), (6, .int .i64 k)]) (fun k w' => k ≤ i ∧ (∀ j, j < k → ∀ y, l[j]? = some y → y.f0 = x.f0 → y = x) ∧ Below w.heap.size w w') (fun k => i - k) 0 (E.subc rfl (E.subc rfl (E.subc rfl E.subn))) ⟨Nat.zero_le _, fun k hk => by omega, L⟩ ?_
     rintro k w11 ⟨hk, hd, L⟩
     refine E.cs (E.cs (E.cl (E.gm rfl rfl rfl (E.gm rfl rfl rfl ?_))))
     refine E.GL.cmp rfl rfl rfl (fun _ h => (E.Runs.lss rfl rfl rfl h)) (fun h27 => ?_) (fun h27 => ?_)
     ·obtain ⟨y, hy⟩ := get_ex (show k < l.length by omega)
      obtain ⟨ad2, eB, Y⟩ := call_at hl hy
      refine E.gd (E.qc (E.CG.cond_t rfl (E.CG.skip (E.qc (E.cs (E.CG.block (E.cs (E.CG.quietF (by kernel_rfl) rfl (by kernel_rfl) (by kernel_rfl) ?_))))))))
      refine E.GQ.run rfl rfl rfl (E.Runs.move rfl rfl) ?_
      refine E.GQ.run rfl rfl rfl (E.Runs.move rfl rfl) ?_
      refine E.GQ.run rfl rfl rfl (E.Runs.indexAddrA (i := k) rfl rfl rfl hu25 z64 o64 (by omega) eB rfl) ?_
      refine E.GQ.run rfl rfl rfl (E.Runs.fieldAddr rfl rfl hu64 rfl (by assumption) rfl) ?_
      refine E.GQ.run rfl rfl rfl (E.Runs.load rfl rfl hu3 (pw_cell_below L (Y 0 _ rfl))) ?_
      refine E.GQ.run rfl rfl rfl (E.Runs.move rfl rfl) ?_
      refine E.GQ.run rfl rfl rfl (E.Runs.move rfl rfl) ?_
      refine E.GQ.run rfl rfl rfl (E.Runs.indexAddrA (i := i) rfl rfl rfl hu25 z64 o64 (by omega) eA rfl) ?_
      refine E.GQ.run rfl rfl rfl (E.Runs.fieldAddr rfl rfl hu64 rfl (by assumption) rfl) ?_
      refine E.GQ.run rfl rfl rfl (E.Runs.load rfl rfl hu3 (pw_cell_below L (X 0 _ rfl))) ?_
      refine E.GQ.cmp rfl rfl rfl (fun _ h => (E.Runs.eql rfl rfl rfl h)) (fun h40 => ?_) (fun h40 => ?_)
      ·refine E.GQ.run rfl rfl rfl (E.Runs.move rfl rfl) ?_
       refine E.GQ.run rfl rfl rfl (E.Runs.move rfl rfl) ?_
       refine E.GQ.run rfl rfl rfl (E.Runs.move rfl rfl) ?_
       refine E.GQ.run rfl rfl rfl (E.Runs.indexAddrA (i := k) rfl rfl rfl hu25 z64 o64 (by omega) eB rfl) ?_
       refine E.GQ.run rfl rfl rfl (E.Runs.loads (cs := [.int .i64 y.f0, .int .i64 y.f1, .int .i64 y.f2, .int .i64 y.f3, .int .i64 y.f4]) rfl rfl hu64 rfl info64s (fun j v hv => pw_cell_below L (Y j v hv))) ?_
       refine E.GQ.run rfl rfl rfl (E.Runs.move rfl rfl) ?_
       refine E.GQ.run rfl rfl rfl (E.Runs.move rfl rfl) ?_
       refine E.GQ.run rfl rfl rfl (E.Runs.indexAddrA (i := i) rfl rfl rfl hu25 z64 o64 (by omega) eA rfl) ?_
       refine E.GQ.run rfl rfl rfl (E.Runs.loads (cs := [.int .i64 x.f0, .int .i64 x.f1, .int .i64 x.f2, .int .i64 x.f3, .int .i64 x.f4]) rfl rfl hu64 rfl info64s (fun j v hv => pw_cell_below L (X j v hv))) ?_
       by_cases hxy50 : y = x
       ·refine E.GQ.run rfl rfl rfl (E.Runs.neqv rfl rfl rfl rfl (fun _ _ W => run_eqGuard_agg W _ _ _ _ _ _ Try.eqGuardType64) (fun W => (equal64 y x W).trans (by rw [decide_eq_true hxy50])) rfl) ?_
        refine E.GQ.run rfl rfl rfl (E.Runs.pick_t rfl rfl rfl) ?_
        refine E.GQ.doneB fun v13 lD => ?_
        replace L := below_step L lD
        have lD13 := lD
        clear lD
        refine E.qc (E.CG.cond_f rfl (E.CG.skip (E.QG.block_normal (E.qc ?_))))
        have hne2 : y.f0 = x.f0 → y = x := by first | exact hne | exact fun _ => hxy50
        refine E.cl (E.gm rfl rfl rfl (E.gr rfl (E.Runs.add rfl rfl rfl (IntWalk.i64_in _ (by omega))) ?_))
        refine E.ga rfl rfl rfl (E.gd ?_)
        exact E.QG.round (k + 1) (E.subc rfl (E.subc rfl (E.subc rfl E.subn))) ⟨by omega, all_more hd hy hne2, L⟩ (by omega)
       ·refine E.GQ.run rfl rfl rfl (E.Runs.neqv rfl rfl rfl rfl (fun _ _ W => run_eqGuard_agg W _ _ _ _ _ _ Try.eqGuardType64) (fun W => (equal64 y x W).trans (by rw [decide_eq_false hxy50])) rfl) ?_
        refine E.GQ.run rfl rfl rfl (E.Runs.pick_t rfl rfl rfl) ?_
        refine E.GQ.doneB fun v13 lD => ?_
        replace L := below_step L lD
        have lD13 := lD
        clear lD
        refine E.qc (E.CG.cond_t rfl (E.cs (E.cl (E.ga rfl rfl rfl (E.gd (E.qc (E.CG.ret (E.QG.block_ret (E.QG.pass_ret ?_)))))))))
        refine E.QG.pass_ret (E.QG.block_ret (E.QG.block_ret (E.QG.pass_ret (E.QG.pass_ret (E.QG.block_ret (E.QG.pass_ret ?_))))))
        exact E.QG.result rfl rfl ⟨_, rfl, (fun q => absurd q (by decide)), L⟩
      ·have hne : y.f0 = x.f0 → y = x := fun q => absurd q h40
       refine E.GQ.run rfl rfl rfl (E.Runs.move rfl rfl) ?_
       refine E.GQ.skip rfl rfl rfl ?_
       refine E.GQ.skip rfl rfl rfl ?_
       refine E.GQ.skip rfl rfl rfl ?_
       refine E.GQ.skip rfl rfl rfl ?_
       refine E.GQ.skip rfl rfl rfl ?_
       refine E.GQ.skip rfl rfl rfl ?_
       refine E.GQ.skip rfl rfl rfl ?_
       refine E.GQ.skip rfl rfl rfl ?_
       refine E.GQ.skip rfl rfl rfl ?_
       refine E.GQ.run rfl rfl rfl (E.Runs.pick_f rfl rfl rfl) ?_
       refine E.GQ.doneB fun v13 lD => ?_
       replace L := below_step L lD
       have lD13 := lD
       clear lD
       refine E.qc (E.CG.cond_f rfl (E.CG.skip (E.QG.block_normal (E.qc ?_))))
       have hne2 : y.f0 = x.f0 → y = x := by first | exact hne | exact fun _ => hxy50
       refine E.cl (E.gm rfl rfl rfl (E.gr rfl (E.Runs.add rfl rfl rfl (IntWalk.i64_in _ (by omega))) ?_))
       refine E.ga rfl rfl rfl (E.gd ?_)
       exact E.QG.round (k + 1) (E.subc rfl (E.subc rfl (E.subc rfl E.subn))) ⟨by omega, all_more hd hy hne2, L⟩ (by omega)
     ·have hkk : ∀ j, j < i → ∀ y, l[j]? = some y → y.f0 = x.f0 → y = x := fun j hj => hd j (by omega)
      refine E.gd (E.qc (E.CG.cond_f rfl (E.CG.exit (E.QG.pass_exit (E.QG.pass_exit (E.QG.block_here (E.QG.block_normal (E.qc (E.cl ?_)))))))))
      refine E.gm rfl rfl rfl (E.gr rfl (E.Runs.add rfl rfl rfl (IntWalk.i64_in _ (by omega))) ?_)
      refine E.ga rfl rfl rfl (E.gd ?_)
      exact E.QG.round (i + 1) (E.subc rfl (E.subc rfl E.subn)) ⟨by omega, all_moreI hall hx ⟨hxk, hkk⟩, L⟩ (by omega)
   ·refine E.gd (E.qc (E.CG.cond_f rfl (E.CG.exit (E.QG.pass_exit (E.QG.pass_exit (E.QG.block_here (E.qc (E.cs (E.cl ?_)))))))))
    refine E.ga rfl rfl rfl (E.gd (E.qc (E.CG.ret ?_)))
    exact E.QG.result rfl rfl ⟨_, rfl, (fun _ => ⟨hok, by omega, (fun x hx => by obtain ⟨k, hk⟩ := List.mem_iff_getElem?.mp hx; exact (hall k (by have := get_lt hk; omega) x hk).1), (fun i j x y hij hx hy e => (hall i (by have := get_lt hy; omega) y hy).2 j hij x hx e)⟩), L⟩

set_option maxRecDepth 100000 in
set_option maxHeartbeats 8000000 in

theorem clo55 (x : Int) (h : inR x 1 12) (w : World) :
  Calls Try.prog 55 #[.int .i64 x] w fun e w' => e = .returned (.bool false) ∧ Below w.heap.size w w' := by
 refine E.enter (N := 6) Try.func55 rfl Try.ntmps55 (args := [.int .i64 x]) (by simp) ?_
 have L := Below.refl w.heap.size w
 refine E.cs (E.cl (E.ga rfl rfl rfl (E.gd (E.qc (E.cs (E.cl (E.gm rfl rfl rfl ?_)))))))
 refine E.GL.st rfl rfl rfl (E.ST.call rfl ent30 (E.evc rfl (E.evc rfl (E.evc rfl E.evn))) ((within_t x 1 12 true (iff_of_true rfl h) _).mono ?_))
 rintro e w4 ⟨rfl, l4⟩
 refine ⟨_, rfl, ?_⟩
 replace L := below_step L l4
 refine E.gr rfl (E.Runs.not rfl rfl) ?_
 refine E.ga rfl rfl rfl (E.gd (E.qc (E.CG.ret ?_)))
 exact E.QG.result rfl rfl ⟨rfl, L⟩

set_option maxRecDepth 100000 in
set_option maxHeartbeats 8000000 in

theorem isHall_s (rows : List Int) (hold : Int) (A : Option Addr) (a : Nat) (w : World) (hr : Kd.C kI w A rows.length rows) (ok : HOk rows hold) :
  Calls Try.prog 37 #[.agg #[.slice A rows.length a, .int .i64 hold]] w fun e w' => e = .returned (.bool true) ∧ Below w.heap.size w w' := by
 have hn := ok.n
 have hu3 := Try.underlying3
 have hu22 := Try.underlying22
 have hu24 := Try.underlying24
 obtain ⟨z3, o3⟩ := info_some info3s (by decide)
 obtain ⟨z22, o22⟩ := info_some info22s (by decide)
 obtain ⟨z24, o24⟩ := info_some info24s (by decide)
 refine E.enter (N := 20) Try.func37 rfl Try.ntmps37 (args := [.agg #[.slice A rows.length a, .int .i64 hold]]) (by simp) ?_
 have L := Below.refl w.heap.size w
 refine E.cs (E.cl ?_)
 refine E.GL.st rfl rfl rfl (E.ST.box rfl rfl fun g1 w1 e1 b1 l1 => ?_)
 have h1_L : w.heap.size ≤ g1 := by rw [e1]; exact L.size
 replace L := below_step L l1
 refine E.ga rfl rfl rfl (E.gd (E.qc (E.cs (E.cl (E.ga rfl rfl rfl (E.gd (E.qc (E.cs (E.cl ?_)))))))))
 refine E.gr rfl (E.Runs.fieldAddr rfl rfl hu24 rfl (by assumption) rfl) ?_
 refine E.gr rfl (E.Runs.load1 rfl rfl hu22 rfl (by first | assumption | exact E.blkc (by assumption) rfl | exact pw_cell_below L (by assumption))) ?_
 refine E.gr rfl (E.Runs.len rfl rfl hu22) ?_
 refine E.GL.st rfl rfl rfl (E.ST.call rfl ent30 (E.evc rfl (E.evc rfl (E.evc rfl E.evn))) ((within_t (rows.length : Int) 1 6 true (iff_of_true rfl ok.n) _).mono ?_))
 rintro e w7 ⟨rfl, l7⟩
 refine ⟨_, rfl, ?_⟩
 replace b1 := blk_below b1 l7
 replace L := below_step L l7
 refine E.gm rfl rfl rfl (E.gr rfl (E.Runs.fieldAddr rfl rfl hu24 rfl (by assumption) rfl) ?_)
 refine E.gr rfl (E.Runs.load1 rfl rfl hu22 rfl (by first | assumption | exact E.blkc (by assumption) rfl | exact pw_cell_below L (by assumption))) ?_
 refine E.gm rfl rfl rfl ?_
 refine E.GL.st rfl rfl rfl (E.ST.call rfl ent56 (E.evc rfl (E.evc rfl E.evn)) ((contains56 rows A a 55 _ (Kd.C_below hr L) (by omega) ent55 (fun y hy W => clo55 y (ok.r y hy) W)).mono ?_))
 rintro e w12 ⟨rfl, l12⟩
 refine ⟨_, rfl, ?_⟩
 replace b1 := blk_below b1 l12
 replace L := below_step L l12
 refine E.gr rfl (E.Runs.not rfl rfl) ?_
 refine E.gt rfl rfl rfl rfl (E.gm rfl rfl rfl (E.gr rfl (E.Runs.fieldAddr rfl rfl hu24 rfl (by assumption) rfl) ?_))
 refine E.gr rfl (E.Runs.load rfl rfl hu3 (by first | assumption | exact E.blkc (by assumption) rfl | exact pw_cell_below L (by assumption))) ?_
 refine E.GL.st rfl rfl rfl (E.ST.call rfl ent30 (E.evc rfl (E.evc rfl (E.evc rfl E.evn))) ((within_t hold 1 600 true (iff_of_true rfl ok.h) _).mono ?_))
 rintro e w18 ⟨rfl, l18⟩
 refine ⟨_, rfl, ?_⟩
 replace b1 := blk_below b1 l18
 replace L := below_step L l18
 refine E.gt rfl rfl rfl rfl (E.ga rfl rfl rfl (E.gd (E.qc (E.CG.ret ?_))))
 exact E.QG.result rfl rfl ⟨rfl, L⟩

set_option maxRecDepth 100000 in
set_option maxHeartbeats 8000000 in

theorem isCall_s (x : S64) (w : World) (ok : LOk x) :
  Calls Try.prog 38 #[.agg #[.int .i64 x.f0, .int .i64 x.f1, .int .i64 x.f2, .int .i64 x.f3, .int .i64 x.f4]] w fun e w' => e = .returned (.bool true) ∧ Below w.heap.size w w' := by
 have hu3 := Try.underlying3
 have hu64 := Try.underlying64
 obtain ⟨z3, o3⟩ := info_some info3s (by decide)
 obtain ⟨z64, o64⟩ := info_some info64s (by decide)
 refine E.enter (N := 32) Try.func38 rfl Try.ntmps38 (args := [.agg #[.int .i64 x.f0, .int .i64 x.f1, .int .i64 x.f2, .int .i64 x.f3, .int .i64 x.f4]]) (by simp) ?_
 have L := Below.refl w.heap.size w
 refine E.cs (E.cl ?_)
 refine E.GL.st rfl rfl rfl (E.ST.box rfl rfl fun g1 w1 e1 b1 l1 => ?_)
 have h1_L : w.heap.size ≤ g1 := by rw [e1]; exact L.size
 replace L := below_step L l1
 refine E.ga rfl rfl rfl (E.gd (E.qc (E.cs (E.cl (E.ga rfl rfl rfl (E.ga rfl rfl rfl (E.gd (E.qc (E.cs ?_)))))))))
 refine E.cs (E.cl (E.gr rfl (E.Runs.fieldAddr rfl rfl hu64 rfl (by assumption) rfl) ?_))
 refine E.gr rfl (E.Runs.load rfl rfl hu3 (by first | assumption | exact E.blkc (by assumption) rfl | exact pw_cell_below L (by assumption))) ?_
 refine E.gd (E.qc (E.CG.block (E.cs (E.cl ?_))))
 refine E.GL.cmp rfl rfl rfl (fun _ h => (E.Runs.eql rfl rfl rfl h)) (fun h8 => ?_) (fun h8 => ?_)
 ·have hk4 : inR x.f4 1 12 := by
   rcases ok.k with ⟨_, h⟩ | ⟨h, _⟩
   ·exact h
   ·omega
  refine E.ga rfl rfl rfl (E.gd (E.qc (E.CG.cond_t rfl (E.cl (E.ga rfl rfl rfl (E.ga rfl rfl rfl (E.gd (E.QG.block_normal (E.qc ?_)))))))))
  refine E.cs (E.cl (E.gr rfl (E.Runs.fieldAddr rfl rfl hu64 rfl (by assumption) rfl) ?_))
  refine E.gr rfl (E.Runs.load rfl rfl hu3 (by first | assumption | exact E.blkc (by assumption) rfl | exact pw_cell_below L (by assumption))) ?_
  refine E.GL.st rfl rfl rfl (E.ST.call rfl ent30 (E.evc rfl (E.evc rfl (E.evc rfl E.evn))) ((within_t x.f0 0 99 true (iff_of_true rfl ok.n.1) _).mono ?_))
  rintro e w14 ⟨rfl, l14⟩
  refine ⟨_, rfl, ?_⟩
  replace b1 := blk_below b1 l14
  replace L := below_step L l14
  refine E.gm rfl rfl rfl (E.gr rfl (E.Runs.fieldAddr rfl rfl hu64 rfl (by assumption) rfl) ?_)
  refine E.gr rfl (E.Runs.load rfl rfl hu3 (by first | assumption | exact E.blkc (by assumption) rfl | exact pw_cell_below L (by assumption))) ?_
  refine E.GL.st rfl rfl rfl (E.ST.call rfl ent30 (E.evc rfl (E.evc rfl (E.evc rfl E.evn))) ((within_t x.f3 0 99 true (iff_of_true rfl ok.n.2.2) _).mono ?_))
  rintro e w18 ⟨rfl, l18⟩
  refine ⟨_, rfl, ?_⟩
  replace b1 := blk_below b1 l18
  replace L := below_step L l18
  refine E.gt rfl rfl rfl rfl (E.gm rfl rfl rfl (E.gr rfl (E.Runs.fieldAddr rfl rfl hu64 rfl (by assumption) rfl) ?_))
  refine E.gr rfl (E.Runs.load rfl rfl hu3 (by first | assumption | exact E.blkc (by assumption) rfl | exact pw_cell_below L (by assumption))) ?_
  refine E.GL.st rfl rfl rfl (E.ST.call rfl ent30 (E.evc rfl (E.evc rfl (E.evc rfl E.evn))) ((within_t x.f1 0 9999 true (iff_of_true rfl ok.n.2.1) _).mono ?_))
  rintro e w23 ⟨rfl, l23⟩
  refine ⟨_, rfl, ?_⟩
  replace b1 := blk_below b1 l23
  replace L := below_step L l23
  refine E.gt rfl rfl rfl rfl (E.gm rfl rfl rfl (E.gr rfl (E.Runs.fieldAddr rfl rfl hu64 rfl (by assumption) rfl) ?_))
  refine E.gr rfl (E.Runs.load rfl rfl hu3 (by first | assumption | exact E.blkc (by assumption) rfl | exact pw_cell_below L (by assumption))) ?_
  refine E.gm rfl rfl rfl (E.gm rfl rfl rfl ?_)
  refine E.GL.st rfl rfl rfl (E.ST.call rfl ent30 (E.evc rfl (E.evc rfl (E.evc rfl E.evn))) ((within_t x.f4 1 12 true (iff_of_true rfl hk4) _).mono ?_))
  rintro e w30 ⟨rfl, l30⟩
  refine ⟨_, rfl, ?_⟩
  replace b1 := blk_below b1 l30
  replace L := below_step L l30
  refine E.gt rfl rfl rfl rfl (E.ga rfl rfl rfl (E.gd (E.qc (E.CG.ret ?_))))
  exact E.QG.result rfl rfl ⟨rfl, L⟩
 ·have hk4 : inR x.f4 0 0 := by
   rcases ok.k with ⟨h, _⟩ | ⟨_, h⟩
   ·exact absurd h h8
   ·exact ⟨by omega, by omega⟩
  refine E.ga rfl rfl rfl (E.gd (E.qc (E.CG.cond_f rfl (E.cs (E.cs (E.cl ?_))))))
  refine E.GL.cmp rfl rfl rfl (fun _ h => (E.Runs.eql rfl rfl rfl h)) (fun h10 => ?_) (fun h10 => ?_)
  ·refine E.ga rfl rfl rfl (E.gd (E.qc (E.CG.cond_t rfl (E.CG.skip (E.qc (E.CG.cond_t rfl (E.CG.skip (E.QG.block_normal (E.qc ?_)))))))))
   refine E.cs (E.cl (E.gr rfl (E.Runs.fieldAddr rfl rfl hu64 rfl (by assumption) rfl) ?_))
   refine E.gr rfl (E.Runs.load rfl rfl hu3 (by first | assumption | exact E.blkc (by assumption) rfl | exact pw_cell_below L (by assumption))) ?_
   refine E.GL.st rfl rfl rfl (E.ST.call rfl ent30 (E.evc rfl (E.evc rfl (E.evc rfl E.evn))) ((within_t x.f0 0 99 true (iff_of_true rfl ok.n.1) _).mono ?_))
   rintro e w14 ⟨rfl, l14⟩
   refine ⟨_, rfl, ?_⟩
   replace b1 := blk_below b1 l14
   replace L := below_step L l14
   refine E.gm rfl rfl rfl (E.gr rfl (E.Runs.fieldAddr rfl rfl hu64 rfl (by assumption) rfl) ?_)
   refine E.gr rfl (E.Runs.load rfl rfl hu3 (by first | assumption | exact E.blkc (by assumption) rfl | exact pw_cell_below L (by assumption))) ?_
   refine E.GL.st rfl rfl rfl (E.ST.call rfl ent30 (E.evc rfl (E.evc rfl (E.evc rfl E.evn))) ((within_t x.f3 0 99 true (iff_of_true rfl ok.n.2.2) _).mono ?_))
   rintro e w18 ⟨rfl, l18⟩
   refine ⟨_, rfl, ?_⟩
   replace b1 := blk_below b1 l18
   replace L := below_step L l18
   refine E.gt rfl rfl rfl rfl (E.gm rfl rfl rfl (E.gr rfl (E.Runs.fieldAddr rfl rfl hu64 rfl (by assumption) rfl) ?_))
   refine E.gr rfl (E.Runs.load rfl rfl hu3 (by first | assumption | exact E.blkc (by assumption) rfl | exact pw_cell_below L (by assumption))) ?_
   refine E.GL.st rfl rfl rfl (E.ST.call rfl ent30 (E.evc rfl (E.evc rfl (E.evc rfl E.evn))) ((within_t x.f1 0 9999 true (iff_of_true rfl ok.n.2.1) _).mono ?_))
   rintro e w23 ⟨rfl, l23⟩
   refine ⟨_, rfl, ?_⟩
   replace b1 := blk_below b1 l23
   replace L := below_step L l23
   refine E.gt rfl rfl rfl rfl (E.gm rfl rfl rfl (E.gr rfl (E.Runs.fieldAddr rfl rfl hu64 rfl (by assumption) rfl) ?_))
   refine E.gr rfl (E.Runs.load rfl rfl hu3 (by first | assumption | exact E.blkc (by assumption) rfl | exact pw_cell_below L (by assumption))) ?_
   refine E.gm rfl rfl rfl (E.gm rfl rfl rfl ?_)
   refine E.GL.st rfl rfl rfl (E.ST.call rfl ent30 (E.evc rfl (E.evc rfl (E.evc rfl E.evn))) ((within_t x.f4 0 0 true (iff_of_true rfl hk4) _).mono ?_))
   rintro e w30 ⟨rfl, l30⟩
   refine ⟨_, rfl, ?_⟩
   replace b1 := blk_below b1 l30
   replace L := below_step L l30
   refine E.gt rfl rfl rfl rfl (E.ga rfl rfl rfl (E.gd (E.qc (E.CG.ret ?_))))
   exact E.QG.result rfl rfl ⟨rfl, L⟩
  ·refine E.ga rfl rfl rfl (E.gd (E.qc (E.CG.cond_f rfl (E.cl ?_))))
   refine E.GL.cmp rfl rfl rfl (fun _ h => (E.Runs.eql rfl rfl rfl h)) (fun h11 => ?_) (fun h11 => ?_)
   ·refine E.ga rfl rfl rfl (E.gd (E.qc (E.CG.cond_t rfl (E.CG.skip (E.QG.block_normal (E.qc (E.cs (E.cl (E.gr rfl (E.Runs.fieldAddr rfl rfl hu64 rfl (by assumption) rfl) ?_)))))))))
    refine E.gr rfl (E.Runs.load rfl rfl hu3 (by first | assumption | exact E.blkc (by assumption) rfl | exact pw_cell_below L (by assumption))) ?_
    refine E.GL.st rfl rfl rfl (E.ST.call rfl ent30 (E.evc rfl (E.evc rfl (E.evc rfl E.evn))) ((within_t x.f0 0 99 true (iff_of_true rfl ok.n.1) _).mono ?_))
    rintro e w14 ⟨rfl, l14⟩
    refine ⟨_, rfl, ?_⟩
    replace b1 := blk_below b1 l14
    replace L := below_step L l14
    refine E.gm rfl rfl rfl (E.gr rfl (E.Runs.fieldAddr rfl rfl hu64 rfl (by assumption) rfl) ?_)
    refine E.gr rfl (E.Runs.load rfl rfl hu3 (by first | assumption | exact E.blkc (by assumption) rfl | exact pw_cell_below L (by assumption))) ?_
    refine E.GL.st rfl rfl rfl (E.ST.call rfl ent30 (E.evc rfl (E.evc rfl (E.evc rfl E.evn))) ((within_t x.f3 0 99 true (iff_of_true rfl ok.n.2.2) _).mono ?_))
    rintro e w18 ⟨rfl, l18⟩
    refine ⟨_, rfl, ?_⟩
    replace b1 := blk_below b1 l18
    replace L := below_step L l18
    refine E.gt rfl rfl rfl rfl (E.gm rfl rfl rfl (E.gr rfl (E.Runs.fieldAddr rfl rfl hu64 rfl (by assumption) rfl) ?_))
    refine E.gr rfl (E.Runs.load rfl rfl hu3 (by first | assumption | exact E.blkc (by assumption) rfl | exact pw_cell_below L (by assumption))) ?_
    refine E.GL.st rfl rfl rfl (E.ST.call rfl ent30 (E.evc rfl (E.evc rfl (E.evc rfl E.evn))) ((within_t x.f1 0 9999 true (iff_of_true rfl ok.n.2.1) _).mono ?_))
    rintro e w23 ⟨rfl, l23⟩
    refine ⟨_, rfl, ?_⟩
    replace b1 := blk_below b1 l23
    replace L := below_step L l23
    refine E.gt rfl rfl rfl rfl (E.gm rfl rfl rfl (E.gr rfl (E.Runs.fieldAddr rfl rfl hu64 rfl (by assumption) rfl) ?_))
    refine E.gr rfl (E.Runs.load rfl rfl hu3 (by first | assumption | exact E.blkc (by assumption) rfl | exact pw_cell_below L (by assumption))) ?_
    refine E.gm rfl rfl rfl (E.gm rfl rfl rfl ?_)
    refine E.GL.st rfl rfl rfl (E.ST.call rfl ent30 (E.evc rfl (E.evc rfl (E.evc rfl E.evn))) ((within_t x.f4 0 0 true (iff_of_true rfl hk4) _).mono ?_))
    rintro e w30 ⟨rfl, l30⟩
    refine ⟨_, rfl, ?_⟩
    replace b1 := blk_below b1 l30
    replace L := below_step L l30
    refine E.gt rfl rfl rfl rfl (E.ga rfl rfl rfl (E.gd (E.qc (E.CG.ret ?_))))
    exact E.QG.result rfl rfl ⟨rfl, L⟩
   ·exact absurd ok.k (by omega)

set_option maxRecDepth 100000 in
set_option maxHeartbeats 8000000 in

theorem check4_s (rows : List Int) (hold : Int) (A : Option Addr) (a : Nat) (w : World) (hr : Kd.C kI w A rows.length rows) (ok : HOk rows hold) (l : List S64) (B : Option Addr) (b : Nat) (hl : Kd.C k64 w B l.length l) (lk : LsOk l) :
  Calls Try.prog 29 #[.agg #[.slice A rows.length a, .int .i64 hold], .slice B l.length b] w fun e w' => e = .returned (.int .i64 0) ∧ Below w.heap.size w w' := by
 have hln := lk.n
 have hu3 := Try.underlying3
 have hu22 := Try.underlying22
 have hu24 := Try.underlying24
 have hu25 := Try.underlying25
 have hu40 := Try.underlying40
 have hu64 := Try.underlying64
 have hu95 := Try.underlying95
 obtain ⟨z3, o3⟩ := info_some info3s (by decide)
 obtain ⟨z25, o25⟩ := info_some info25s (by decide)
 obtain ⟨z64, o64⟩ := info_some info64s (by decide)
 refine E.enter (N := 46) Try.func29 rfl Try.ntmps29 (args := [.agg #[.slice A rows.length a, .int .i64 hold], .slice B l.length b]) (by simp) ?_
 have L := Below.refl w.heap.size w
 refine E.cs (E.cl ?_)
 refine E.GL.st rfl rfl rfl (E.ST.box rfl rfl fun g2 w2 e2 b2 l2 => ?_)
 have h2_L : w.heap.size ≤ g2 := by rw [e2]; exact L.size
 replace L := below_step L l2
 refine E.ga rfl rfl rfl (E.gd (E.qc (E.cs (E.cs (E.cl (E.gr rfl (E.Runs.loads (cs := [.slice A rows.length a, .int .i64 hold]) rfl rfl hu24 rfl info24s (blk_cells b2)) ?_))))))
 refine E.GL.st rfl rfl rfl (E.ST.call rfl ent37 (E.evc rfl E.evn) ((isHall_s rows hold A a _ (Kd.C_below hr L) ok).mono ?_))
 rintro e w11 ⟨rfl, l11⟩
 refine ⟨_, rfl, ?_⟩
 replace b2 := blk_below b2 l11
 replace L := below_step L l11
 refine E.gr rfl (E.Runs.not rfl rfl) ?_
 refine E.gd (E.qc (E.CG.cond_f rfl (E.CG.skip (E.qc (E.cs (E.cs (E.cl (E.gm rfl rfl rfl (E.gr rfl (E.Runs.len rfl rfl hu25) ?_)))))))))
 refine E.gr rfl (E.Runs.gtr rfl rfl rfl (decide_eq_false (by omega))) ?_
 refine E.gd (E.qc (E.CG.cond_f rfl (E.CG.skip (E.qc (E.cs (E.cl ?_))))))
 refine E.GL.st rfl rfl rfl (E.ST.makeMap evI evL rfl fun g16 w16 e16 M l16 => ?_)
 have hgm : w.heap.size ≤ g16 := by rw [e16]; exact L.size
 replace L := below_step L l16
 replace b2 := blk_below b2 l16
 refine E.ga rfl rfl rfl (E.gd (E.qc (E.cs (E.cs (E.cl (E.gm rfl rfl rfl (E.gr rfl (E.Runs.len rfl rfl hu25) ?_)))))))
 refine E.gm rfl rfl rfl (E.gd (E.qc (E.CG.block ?_)))
 have s7_b2 := b2
 have s7_L := L
 refine E.CG.loop2 (fun (i : Nat) (f : Int → Option S64) => [(5, .map (some g16)), (17, .slice B l.length b), (18, .int .i64 l.length), (19, .int .i64 i)]) (fun i f w' => i ≤ l.length ∧ Mf evI evL w' g16 f ∧ (∀ n x, f n = some x → x ∈ l ∧ x.f0 = n) ∧ Below w.heap.size w w') (fun i f => l.length - i) 0 (fun _ => none) (E.subc rfl (E.subc rfl (E.subc rfl (E.subc rfl E.subn)))) ⟨Nat.zero_le _, M, (fun n x h => by cases h), L⟩ ?_
 rintro i f w7 ⟨hi, M, hf, L⟩
 refine E.cs (E.cl ?_)
 refine E.GL.cmp rfl rfl rfl (fun _ h => (E.Runs.lss rfl rfl rfl h)) (fun h20 => ?_) (fun h20 => ?_)
 ·obtain ⟨x, hx⟩ := get_ex (show i < l.length by omega)
  obtain ⟨ad, eA, X⟩ := call_at hl hx
  refine E.gd (E.qc (E.cs (E.CG.cond_t rfl (E.CG.skip (E.qc (E.cs (E.CG.block (E.cs (E.cl ?_)))))))))
  refine E.gr rfl (E.Runs.indexAddrA (i := i) rfl rfl rfl hu25 z64 o64 (by omega) eA rfl) ?_
  refine E.gr rfl (E.Runs.loads (cs := [.int .i64 x.f0, .int .i64 x.f1, .int .i64 x.f2, .int .i64 x.f3, .int .i64 x.f4]) rfl rfl hu64 rfl info64s (fun j v hv => pw_cell_below L (X j v hv))) ?_
  refine E.GL.st rfl rfl rfl (E.ST.alloc rfl info64z fun g7 w7 e7 b7 l7 => ?_)
  have h7_L : w.heap.size ≤ g7 := by rw [e7]; exact L.size
  replace L := below_step L l7
  refine E.GL.store_whole rfl rfl rfl rfl rfl b7 rfl info64s (call_one _) fun wS8_3 c7 lS8_3 => ?_
  replace L := E.below_own L h7_L lS8_3
  replace b7 := c7
  clear c7
  replace M := M.below (E.below_own l7 (by rw [e7]; exact Nat.le_refl _) lS8_3)
  refine E.gd (E.qc (E.cs (E.cs (E.cl (E.gm rfl rfl rfl (E.gr rfl (E.Runs.fieldAddr rfl rfl hu64 rfl (by assumption) rfl) ?_))))))
  refine E.gr rfl (E.Runs.load rfl rfl hu3 (by first | assumption | exact E.blkc (by assumption) rfl | exact pw_cell_below L (by assumption))) ?_
  obtain ⟨fo, hfx⟩ : ∃ o, f x.f0 = o := ⟨_, rfl⟩
  rcases fo with _ | x8
  ·refine E.gr rfl (E.Runs.lookupF rfl rfl kT3 rfl hu95 (E.zero_run info64z) M (by rw [hfx]; first | done | rfl)) ?_
   refine E.gm rfl rfl rfl (E.gr rfl (E.Runs.extract rfl rfl rfl) ?_)
   refine E.gr rfl (E.Runs.extract rfl rfl rfl) ?_
   refine E.GL.st rfl rfl rfl (E.ST.alloc rfl info64z fun g8 w8 e8 b8 l8 => ?_)
   have h8_L : w.heap.size ≤ g8 := by rw [e8]; exact L.size
   have n8_b7 : g7 ≠ g8 := by have := blk_lt b7; omega
   replace b7 := blk_below b7 l8
   replace L := below_step L l8
   refine E.GL.store_whole rfl rfl rfl rfl rfl b8 rfl info64s (int5_one _ _ _ _ _) fun wS9_8 c8 lS9_8 => ?_
   replace b7 := blk_grown b7 lS9_8 (E.nes (by first | assumption | exact Ne.symm (by assumption)))
   replace L := E.below_own L h8_L lS9_8
   replace b8 := c8
   clear c8
   replace M := M.below (E.below_own l8 (by rw [e8]; exact Nat.le_refl _) lS9_8)
   refine E.ga rfl rfl rfl (E.gd (E.qc (E.cs (E.cl (E.gr rfl (E.Runs.loads (cs := [.int .i64 x.f0, .int .i64 x.f1, .int .i64 x.f2, .int .i64 x.f3, .int .i64 x.f4]) rfl rfl hu64 rfl info64s (blk_cells b7)) ?_)))))
   refine E.GL.st rfl rfl rfl (E.ST.call rfl ent38 (E.evc rfl E.evn) ((isCall_s x _ (lk.c x (mem_of hx))).mono ?_))
   rintro e w31 ⟨rfl, l31⟩
   refine ⟨_, rfl, ?_⟩
   replace b7 := blk_below b7 l31
   replace b8 := blk_below b8 l31
   replace L := below_step L l31
   replace M := M.below l31
   refine E.gr rfl (E.Runs.not rfl rfl) ?_
   refine E.gm rfl rfl rfl (E.gm rfl rfl rfl (E.gm rfl rfl rfl (E.gk rfl (E.gk rfl (E.gk rfl (E.gr rfl (E.Runs.pick_f rfl rfl rfl) ?_))))))
   refine E.gr rfl (E.Runs.pick_f rfl rfl rfl) ?_
   refine E.gd (E.qc (E.CG.cond_f rfl (E.CG.skip (E.qc (E.cl (E.gm rfl rfl rfl (E.gr rfl (E.Runs.fieldAddr rfl rfl hu64 rfl (by assumption) rfl) ?_)))))))
   refine E.gr rfl (E.Runs.load rfl rfl hu3 (by first | assumption | exact E.blkc (by assumption) rfl | exact pw_cell_below L (by assumption))) ?_
   refine E.gr rfl (E.Runs.loads (cs := [.int .i64 x.f0, .int .i64 x.f1, .int .i64 x.f2, .int .i64 x.f3, .int .i64 x.f4]) rfl rfl hu64 rfl info64s (blk_cells b7)) ?_
   refine E.GL.sn rfl rfl (E.ST.mapUpdate (ev := evL) (v := x) rfl rfl kT3 x.f0 rfl rfl hu95 M fun wQ mQ lQ => ?_)
   replace L := E.below_own L hgm lQ
   refine E.gd (E.QG.block_normal (E.qc (E.cl (E.gr rfl (E.Runs.add rfl rfl rfl (IntWalk.i64_in _ (by omega))) ?_))))
   refine E.gm rfl rfl rfl (E.gd ?_)
   exact E.QG.round2 (d := fun _ => none) (i + 1) (upd f x.f0 x) (E.subc rfl (E.subc rfl (E.subc rfl (E.subc rfl E.subn)))) ⟨by omega, mQ, upd_ok hf hx, L⟩ (by omega)
  ·obtain ⟨q1, q2⟩ := hf _ _ hfx
   have hq := (lk.u.eq q1 (mem_of hx) q2).symm
   subst hq
   refine E.gr rfl (E.Runs.lookupF rfl rfl kT3 rfl hu95 (E.zero_run info64z) M (by rw [hfx]; first | done | rfl)) ?_
   refine E.gm rfl rfl rfl (E.gr rfl (E.Runs.extract rfl rfl rfl) ?_)
   refine E.gr rfl (E.Runs.extract rfl rfl rfl) ?_
   refine E.GL.st rfl rfl rfl (E.ST.alloc rfl info64z fun g8 w8 e8 b8 l8 => ?_)
   have h8_L : w.heap.size ≤ g8 := by rw [e8]; exact L.size
   have n8_b7 : g7 ≠ g8 := by have := blk_lt b7; omega
   replace b7 := blk_below b7 l8
   replace L := below_step L l8
   refine E.GL.store_whole rfl rfl rfl rfl rfl b8 rfl info64s (int5_one _ _ _ _ _) fun wS9_8 c8 lS9_8 => ?_
   replace b7 := blk_grown b7 lS9_8 (E.nes (by first | assumption | exact Ne.symm (by assumption)))
   replace L := E.below_own L h8_L lS9_8
   replace b8 := c8
   clear c8
   replace M := M.below (E.below_own l8 (by rw [e8]; exact Nat.le_refl _) lS9_8)
   refine E.ga rfl rfl rfl (E.gd (E.qc (E.cs (E.cl (E.gr rfl (E.Runs.loads (cs := [.int .i64 x.f0, .int .i64 x.f1, .int .i64 x.f2, .int .i64 x.f3, .int .i64 x.f4]) rfl rfl hu64 rfl info64s (blk_cells b7)) ?_)))))
   refine E.GL.st rfl rfl rfl (E.ST.call rfl ent38 (E.evc rfl E.evn) ((isCall_s x _ (lk.c x (mem_of hx))).mono ?_))
   rintro e w31 ⟨rfl, l31⟩
   refine ⟨_, rfl, ?_⟩
   replace b7 := blk_below b7 l31
   replace b8 := blk_below b8 l31
   replace L := below_step L l31
   replace M := M.below l31
   refine E.gr rfl (E.Runs.not rfl rfl) ?_
   refine E.gm rfl rfl rfl (E.gm rfl rfl rfl (E.gm rfl rfl rfl (E.gr rfl (E.Runs.loads (cs := [.int .i64 x.f0, .int .i64 x.f1, .int .i64 x.f2, .int .i64 x.f3, .int .i64 x.f4]) rfl rfl hu64 rfl info64s (blk_cells b8)) ?_)))
   refine E.gr rfl (E.Runs.loads (cs := [.int .i64 x.f0, .int .i64 x.f1, .int .i64 x.f2, .int .i64 x.f3, .int .i64 x.f4]) rfl rfl hu64 rfl info64s (blk_cells b7)) ?_
   refine E.gr rfl (E.Runs.neqv rfl rfl rfl rfl (fun _ _ W => run_eqGuard_agg W _ _ _ _ _ _ Try.eqGuardType64) (fun W => (equal64 x x W).trans (by rw [decide_eq_true rfl])) rfl) ?_
   refine E.gt rfl rfl rfl rfl (E.gr rfl (E.Runs.pick_f rfl rfl rfl) ?_)
   refine E.gd (E.qc (E.CG.cond_f rfl (E.CG.skip (E.qc (E.cl (E.gm rfl rfl rfl (E.gr rfl (E.Runs.fieldAddr rfl rfl hu64 rfl (by assumption) rfl) ?_)))))))
   refine E.gr rfl (E.Runs.load rfl rfl hu3 (by first | assumption | exact E.blkc (by assumption) rfl | exact pw_cell_below L (by assumption))) ?_
   refine E.gr rfl (E.Runs.loads (cs := [.int .i64 x.f0, .int .i64 x.f1, .int .i64 x.f2, .int .i64 x.f3, .int .i64 x.f4]) rfl rfl hu64 rfl info64s (blk_cells b7)) ?_
   refine E.GL.sn rfl rfl (E.ST.mapUpdate (ev := evL) (v := x) rfl rfl kT3 x.f0 rfl rfl hu95 M fun wQ mQ lQ => ?_)
   replace L := E.below_own L hgm lQ
   refine E.gd (E.QG.block_normal (E.qc (E.cl (E.gr rfl (E.Runs.add rfl rfl rfl (IntWalk.i64_in _ (by omega))) ?_))))
   refine E.gm rfl rfl rfl (E.gd ?_)
   exact E.QG.round2 (d := fun _ => none) (i + 1) (upd f x.f0 x) (E.subc rfl (E.subc rfl (E.subc rfl (E.subc rfl E.subn)))) ⟨by omega, mQ, upd_ok hf hx, L⟩ (by omega)
 ·refine E.gd (E.qc (E.cs (E.CG.cond_f rfl (E.CG.exit (E.QG.pass_exit (E.QG.pass_exit (E.QG.block_here (E.qc (E.cs ?_)))))))))
  refine E.cl (E.ga rfl rfl rfl (E.gd (E.qc (E.CG.ret ?_))))
  exact E.QG.result rfl rfl ⟨rfl, L⟩

end Go.Proofs.Ytkjefnlhhfpllaa.T
