/- Texts of this claim, put together: A2, N2, N3, A4, E28, A5, A6, N4, A7, A8, A9. -/
import Derived.Test.YtkjefnlhhfpllaaG1
import Derived.Test.YtkjefnlhhfpllaaWEqStruct
namespace Go.Proofs.Ytkjefnlhhfpllaa.T
open Go.RowKit Go.Proofs.YtkjefnlhhfpllaaW.PrintWords Go.Proofs.YtkjefnlhhfpllaaW.PrintMore
open Go.Proofs.Ytkjefnlhhfpllaa.P
set_option linter.unusedVariables false
set_option linter.unusedSimpArgs false

set_option maxRecDepth 100000 in
theorem build36z (W : World) : (Instr.build 36 #[]).run Try.prog W = .ok (.agg #[.int .i64 0, .int .i64 0, .int .i64 0, .slice none 0 0, .slice none 0 0, .int .i64 0, .int .i64 0, .int .i64 0, .int .i64 0]) W := by
 have hu3 := Try.underlying3
 have hu22 := Try.underlying22
 have hu34 := Try.underlying34
 have hu36 := Try.underlying36
 go_simp
/-- The first contract of a film, or -1. -/
def Idx (cs : List S36) (film r : Int) : Prop := r = -1 ∧ (∀ c ∈ cs, c.f0 ≠ film) ∨ ∃ (i : Nat) (c : S36), r = i ∧ cs[i]? = some c ∧ c.f0 = film
def zC : S36 := ⟨0, 0, 0, [], [], 0, 0, 0, 0⟩
theorem CM.zero (w : World) : CM w zC none 0 none 0 := ⟨Kd.C_nil _ _, Kd.C_nil _ _, Nat.le_refl _, Nat.le_refl _⟩
/-- What is found for a film: the contract's cells, and whether there is one. -/
def Fnd (w : World) (cs : List S36) (film : Int) (x : S36) (a : Option Addr) (k : Nat) (b : Option Addr) (l : Nat) (r : Bool) : Prop := CM w x a k b l ∧ (r = true → x ∈ cs ∧ x.f0 = film) ∧ (r = false → ∀ c ∈ cs, c.f0 ≠ film)
theorem Fnd.below {w w' : World} {cs : List S36} {film : Int} {x : S36} {a b : Option Addr} {k l : Nat} {r : Bool} (h : Fnd w cs film x a k b l r) (q : Below w.heap.size w w') : Fnd w' cs film x a k b l r := ⟨h.1.below q, h.2.1, h.2.2⟩
set_option maxRecDepth 100000 in
set_option maxHeartbeats 8000000 in

theorem clo50 (x : S36) (a3 a4 : Option Addr) (k3 k4 : Nat) (film : Int) (g : Nat) (w : World) (bg : w.heap[g]? = some (.cells #[.int .i64 film] 3 (0, 0))) (r : Bool) (hb : r = true ↔ x.f0 = film) :
  Calls Try.prog 50 #[.agg #[.int .i64 x.f0, .int .i64 x.f1, .int .i64 x.f2, .slice a3 x.f3.length k3, .slice a4 x.f4.length k4, .int .i64 x.f5, .int .i64 x.f6, .int .i64 x.f7, .int .i64 x.f8], .pointer (some ⟨g, 0, none⟩)] w fun e w' => e = .returned (.bool r) ∧ Below w.heap.size w w' := by
 have hu3 := Try.underlying3
 have hu22 := Try.underlying22
 have hu36 := Try.underlying36
 obtain ⟨z3, o3⟩ := info_some info3s (by decide)
 obtain ⟨z22, o22⟩ := info_some info22s (by decide)
 obtain ⟨z36, o36⟩ := info_some info36s (by decide)
 refine E.enter (N := 8) Try.func50 rfl Try.ntmps50 (args := [.agg #[.int .i64 x.f0, .int .i64 x.f1, .int .i64 x.f2, .slice a3 x.f3.length k3, .slice a4 x.f4.length k4, .int .i64 x.f5, .int .i64 x.f6, .int .i64 x.f7, .int .i64 x.f8], .pointer (some ⟨g, 0, none⟩)]) (by simp) ?_
 have L := Below.refl w.heap.size w
 refine E.cs (E.cl ?_)
 refine E.GL.st rfl rfl rfl (E.ST.box rfl rfl fun g2 w2 e2 b2 l2 => ?_)
 have h2_L : w.heap.size ≤ g2 := by rw [e2]; exact L.size
 have n2_bg : g ≠ g2 := by have := blk_lt bg; omega
 replace bg := blk_below bg l2
 replace L := below_step L l2
 refine E.ga rfl rfl rfl (E.gd (E.qc (E.cs (E.cl (E.gr rfl (E.Runs.fieldAddr rfl rfl hu36 rfl (by assumption) rfl) ?_)))))
 refine E.gr rfl (E.Runs.load rfl rfl hu3 (by first | assumption | exact E.blkc (by assumption) rfl | exact pw_cell_below L (by assumption))) ?_
 refine E.gr rfl (E.Runs.load rfl rfl hu3 (by first | assumption | exact E.blkc (by assumption) rfl | exact pw_cell_below L (by assumption))) ?_
 refine E.GL.cmp rfl rfl rfl (fun _ h => (E.Runs.eql rfl rfl rfl h)) (fun h7 => ?_) (fun h7 => ?_)
 ·refine E.ga rfl rfl rfl (E.gd (E.qc (E.CG.ret ?_)))
  exact E.QG.result rfl rfl ⟨by rw [hb.mpr h7], L⟩
 ·refine E.ga rfl rfl rfl (E.gd (E.qc (E.CG.ret ?_)))
  exact E.QG.result rfl rfl ⟨by rw [bool_no hb h7], L⟩

set_option maxRecDepth 100000 in
set_option maxHeartbeats 8000000 in

theorem index49 (film : Int) (g : Nat) (w : World) (bg : w.heap[g]? = some (.cells #[.int .i64 film] 3 (0, 0))) (l : List S36) (A : Option Addr) (c : Nat) (hr : Kd.C k36 w A l.length l) (hn : l.length ≤ 1000000) :
  Calls Try.prog 49 #[.slice A l.length c, .func (.func 50) #[] #[.pointer (some ⟨g, 0, none⟩)]] w fun e w' => ∃ r : Int, e = .returned (.int .i64 r) ∧ Idx l film r ∧ Below w.heap.size w w' := by
 have hu3 := Try.underlying3
 have hu26 := Try.underlying26
 have hu36 := Try.underlying36
 obtain ⟨z36, o36⟩ := info_some info36s (by decide)
 refine E.enter (N := 19) Try.func49 rfl Try.ntmps49 (args := [.slice A l.length c, .func (.func 50) #[] #[.pointer (some ⟨g, 0, none⟩)]]) (by simp) ?_
 have L := Below.refl w.heap.size w
 refine E.cs (E.cl (E.ga rfl rfl rfl (E.gd (E.qc (E.cs (E.cs (E.cl (E.gm rfl rfl rfl (E.gr rfl (E.Runs.len rfl rfl hu26) ?_)))))))))
 refine E.gm rfl rfl rfl (E.gd (E.qc (E.CG.block ?_)))
 have s2_L := L
 refine E.CG.loop (fun (i : Nat) => [(0, .slice A l.length c), (1, .func (.func 50) #[] #[.pointer (some ⟨g, 0, none⟩)]), (7, .int .i64 l.length), (8, .int .i64 i)]) (fun i w' => i ≤ l.length ∧ Below w.heap.size w w' ∧ ∀ k, k < i → ∀ x, l[k]? = some x → x.f0 ≠ film) (fun i => l.length - i) 0 (E.subc rfl (E.subc rfl (E.subc rfl (E.subc rfl E.subn)))) ⟨Nat.zero_le _, L, fun k hk => by omega⟩ ?_
 rintro i w2 ⟨hi, L, hok⟩
 refine E.cs (E.cl ?_)
 refine E.GL.cmp rfl rfl rfl (fun _ h => (E.Runs.lss rfl rfl rfl h)) (fun h9 => ?_) (fun h9 => ?_)
 ·obtain ⟨x, hx⟩ := get_ex (show i < l.length by omega)
  obtain ⟨ad, a3, k3, a4, k4, eA, _, X⟩ := con_at hr hx
  refine E.gd (E.qc (E.cs (E.CG.cond_t rfl (E.CG.skip (E.qc (E.cs (E.CG.block (E.cs (E.cl ?_)))))))))
  refine E.gm rfl rfl rfl (E.ga rfl rfl rfl (E.gd (E.qc (E.cs (E.cl (E.gm rfl rfl rfl (E.gm rfl rfl rfl (E.gm rfl rfl rfl (E.gr rfl (E.Runs.indexAddrA (i := i) rfl rfl rfl hu26 z36 o36 (by omega) eA rfl) ?_)))))))))
  refine E.gr rfl (E.Runs.loads (cs := [.int .i64 x.f0, .int .i64 x.f1, .int .i64 x.f2, .slice a3 x.f3.length k3, .slice a4 x.f4.length k4, .int .i64 x.f5, .int .i64 x.f6, .int .i64 x.f7, .int .i64 x.f8]) rfl rfl hu36 rfl info36s (fun j v hv => pw_cell_below L (X j v hv))) ?_
  by_cases h16 : x.f0 = film
  ·refine E.GL.st rfl rfl rfl (E.ST.callV (cap := [.pointer (some ⟨g, 0, none⟩)]) rfl ent50 rfl (E.evc rfl E.evn) ((clo50 x a3 a4 k3 k4 film g _ (blk_below bg L) true (iff_of_true rfl h16)).mono ?_))
   rintro e w16 ⟨rfl, l16⟩
   refine ⟨_, rfl, ?_⟩
   replace L := below_step L l16
   refine E.gd (E.qc (E.CG.cond_t rfl (E.cs (E.cl (E.gm rfl rfl rfl (E.ga rfl rfl rfl (E.gd (E.qc (E.CG.ret ?_)))))))))
   refine E.QG.block_ret (E.QG.pass_ret (E.QG.pass_ret (E.QG.block_ret (E.QG.pass_ret ?_))))
   exact E.QG.result rfl rfl ⟨_, rfl, .inr ⟨i, x, rfl, hx, h16⟩, L⟩
  ·refine E.GL.st rfl rfl rfl (E.ST.callV (cap := [.pointer (some ⟨g, 0, none⟩)]) rfl ent50 rfl (E.evc rfl E.evn) ((clo50 x a3 a4 k3 k4 film g _ (blk_below bg L) false (iff_of_false Bool.false_ne_true h16)).mono ?_))
   rintro e w16 ⟨rfl, l16⟩
   refine ⟨_, rfl, ?_⟩
   replace L := below_step L l16
   refine E.gd (E.qc (E.CG.cond_f rfl (E.CG.skip (E.QG.block_normal (E.qc (E.cl (E.gr rfl (E.Runs.add rfl rfl rfl (IntWalk.i64_in _ (by omega))) ?_)))))))
   refine E.gm rfl rfl rfl (E.gd ?_)
   exact E.QG.round (i + 1) (E.subc rfl (E.subc rfl (E.subc rfl (E.subc rfl E.subn)))) ⟨by omega, L, all_more hok hx h16⟩ (by omega)
 ·refine E.gd (E.qc (E.cs (E.CG.cond_f rfl (E.CG.exit (E.QG.pass_exit (E.QG.pass_exit (E.QG.block_here (E.qc (E.cs ?_)))))))))
  refine E.cl (E.ga rfl rfl rfl (E.gd (E.qc (E.CG.ret ?_))))
  exact E.QG.result rfl rfl ⟨_, rfl, .inl ⟨rfl, all_done hok (by omega)⟩, L⟩

set_option maxRecDepth 100000 in
set_option maxHeartbeats 8000000 in

theorem contract_s (V : Bk) (m : Ba) (film : Int) (w0 w : World) (K0 : Below w0.heap.size w0 w) (hc : Kd.C k36 w0 m.A V.cs.length V.cs) (hs : V.cs.length ≤ 1000000) :
  Calls Try.prog 33 #[bv V m, .int .i64 film] w fun e w' => ∃ x a k b l r, e = .returned (.tuple #[.agg #[.int .i64 x.f0, .int .i64 x.f1, .int .i64 x.f2, .slice a x.f3.length k, .slice b x.f4.length l, .int .i64 x.f5, .int .i64 x.f6, .int .i64 x.f7, .int .i64 x.f8], .bool r]) ∧ Fnd w0 V.cs film x a k b l r ∧ Below w.heap.size w w' := by
 have hu3 := Try.underlying3
 have hu26 := Try.underlying26
 have hu29 := Try.underlying29
 have hu36 := Try.underlying36
 obtain ⟨z26, o26⟩ := info_some info26s (by decide)
 obtain ⟨z36, o36⟩ := info_some info36s (by decide)
 refine E.enter (N := 19) Try.func33 rfl Try.ntmps33 (args := [bv V m, .int .i64 film]) (by simp) ?_
 have L := Below.refl w.heap.size w
 refine E.cs (E.cl ?_)
 refine E.GL.st rfl rfl rfl (E.ST.box rfl rfl fun g2 w2 e2 b2 l2 => ?_)
 have h2_L : w.heap.size ≤ g2 := by rw [e2]; exact L.size
 replace L := below_step L l2
 refine E.GL.st rfl rfl rfl (E.ST.boxZ rfl rfl rfl fun g3 w3 e3 b3 l3 => ?_)
 have h3_L : w.heap.size ≤ g3 := by rw [e3]; exact L.size
 have n3_b2 : g2 ≠ g3 := by have := blk_lt b2; omega
 replace b2 := blk_below b2 l3
 replace L := below_step L l3
 refine E.GL.st rfl rfl rfl (E.ST.alloc rfl info36z fun g4 w4 e4 b4 l4 => ?_)
 have h4_L : w.heap.size ≤ g4 := by rw [e4]; exact L.size
 have n4_b2 : g2 ≠ g4 := by have := blk_lt b2; omega
 have n4_b3 : g3 ≠ g4 := by have := blk_lt b3; omega
 replace b2 := blk_below b2 l4
 replace b3 := blk_below b3 l4
 replace L := below_step L l4
 refine E.ga rfl rfl rfl (E.gd (E.qc (E.cs (E.cl (E.gr rfl (E.Runs.fieldAddr rfl rfl hu29 rfl (by assumption) rfl) ?_)))))
 refine E.gr rfl (E.Runs.load1 rfl rfl hu26 rfl (by first | assumption | exact E.blkc (by assumption) rfl | exact pw_cell_below L (by assumption))) ?_
 refine E.gr rfl (E.Runs.makeFunc rfl (E.evc rfl E.evn)) ?_
 refine E.GL.st rfl rfl rfl (E.ST.call rfl ent49 (E.evc rfl (E.evc rfl E.evn)) ((index49 film g3 _ b3 V.cs m.A m.a (Kd.C_below hc (below_step K0 L)) hs).mono ?_))
 rintro e w10 ⟨q, rfl, hq, l10⟩
 refine ⟨_, rfl, ?_⟩
 replace b2 := blk_below b2 l10
 replace b3 := blk_below b3 l10
 replace b4 := blk_below b4 l10
 replace L := below_step L l10
 refine E.ga rfl rfl rfl (E.gd (E.qc (E.cs (E.cs (E.cl (E.gm rfl rfl rfl ?_))))))
 refine E.GL.cmp rfl rfl rfl (fun _ h => (E.Runs.lss rfl rfl rfl h)) (fun h12 => ?_) (fun h12 => ?_)
 ·have hno : ∀ c ∈ V.cs, c.f0 ≠ film := by
   rcases hq with ⟨_, h⟩ | ⟨i, c, e, _⟩
   ·exact h
   ·omega
  refine E.gd (E.qc (E.CG.cond_t rfl (E.cs (E.cl (E.gr rfl (E.Runs.build rfl E.epn build36z) ?_)))))
  refine E.GL.store_whole rfl rfl rfl rfl rfl b4 rfl info36s (con_one _ _ _ _ _ _ _ _ _ _ _ _ _) fun wS3_1 c4 lS3_1 => ?_
  replace b2 := blk_grown b2 lS3_1 (E.nes (by first | assumption | exact Ne.symm (by assumption)))
  replace b3 := blk_grown b3 lS3_1 (E.nes (by first | assumption | exact Ne.symm (by assumption)))
  replace L := E.below_own L h4_L lS3_1
  replace b4 := c4
  clear c4
  refine E.ga rfl rfl rfl (E.gd (E.qc (E.CG.ret (E.QG.pass_ret ?_))))
  exact E.QG.result_ct rfl rfl b4 hu36 rfl info36s rfl ⟨zC, none, 0, none, 0, false, rfl, ⟨CM.zero _, (fun q => by cases q), fun _ => hno⟩, L⟩
 ·obtain ⟨i, x, rfl, hx, hxf⟩ : ∃ (i : Nat) (x : S36), q = i ∧ V.cs[i]? = some x ∧ x.f0 = film := by
   rcases hq with ⟨e, _⟩ | h
   ·omega
   ·exact h
  have hil := get_lt hx
  obtain ⟨ad, a3, k3, a4, k4, eA, hx0, X⟩ := con_at hc hx
  refine E.gd (E.qc (E.CG.cond_f rfl (E.CG.skip (E.qc (E.cs (E.cl (E.gr rfl (E.Runs.fieldAddr rfl rfl hu29 rfl (by assumption) rfl) ?_)))))))
  refine E.gr rfl (E.Runs.load1 rfl rfl hu26 rfl (by first | assumption | exact E.blkc (by assumption) rfl | exact pw_cell_below L (by assumption))) ?_
  refine E.gm rfl rfl rfl (E.gr rfl (E.Runs.indexAddrA (i := i) rfl rfl rfl hu26 z36 o36 (by omega) eA rfl) ?_)
  refine E.gr rfl (E.Runs.loads (cs := [.int .i64 x.f0, .int .i64 x.f1, .int .i64 x.f2, .slice a3 x.f3.length k3, .slice a4 x.f4.length k4, .int .i64 x.f5, .int .i64 x.f6, .int .i64 x.f7, .int .i64 x.f8]) rfl rfl hu36 rfl info36s (fun j v hv => pw_cell_below (below_step K0 L) (X j v hv))) ?_
  refine E.GL.store_whole rfl rfl rfl rfl rfl b4 rfl info36s (con_one _ _ _ _ _ _ _ _ _ _ _ _ _) fun wS4_5 c4 lS4_5 => ?_
  replace b2 := blk_grown b2 lS4_5 (E.nes (by first | assumption | exact Ne.symm (by assumption)))
  replace b3 := blk_grown b3 lS4_5 (E.nes (by first | assumption | exact Ne.symm (by assumption)))
  replace L := E.below_own L h4_L lS4_5
  replace b4 := c4
  clear c4
  refine E.ga rfl rfl rfl (E.gd (E.qc (E.CG.ret ?_)))
  exact E.QG.result_ct rfl rfl b4 hu36 rfl info36s rfl ⟨x, a3, k3, a4, k4, true, rfl, ⟨hx0, fun _ => ⟨mem_of hx, hxf⟩, (fun q => by cases q)⟩, L⟩

set_option maxRecDepth 100000 in
set_option maxHeartbeats 8000000 in

theorem contract_r (V : Bk) (m : Ba) (film : Int) (w : World) (hc : Kd.C k36 w m.A V.cs.length V.cs) (hs : V.cs.length ≤ 1000000) :
  Calls Try.prog 4 #[bv V m, .int .i64 film] w fun e w' => ∃ x a k b l r, e = .returned (.tuple #[.agg #[.int .i64 x.f0, .int .i64 x.f1, .int .i64 x.f2, .slice a x.f3.length k, .slice b x.f4.length l, .int .i64 x.f5, .int .i64 x.f6, .int .i64 x.f7, .int .i64 x.f8], .bool r]) ∧ Fnd w' V.cs film x a k b l r ∧ Below w.heap.size w w' := by
 have hu3 := Try.underlying3
 have hu26 := Try.underlying26
 have hu29 := Try.underlying29
 have hu36 := Try.underlying36
 obtain ⟨z3, o3⟩ := info_some info3s (by decide)
 obtain ⟨z26, o26⟩ := info_some info26s (by decide)
 obtain ⟨z36, o36⟩ := info_some info36s (by decide)
 refine E.enter (N := 28) Try.func4 rfl Try.ntmps4 (args := [bv V m, .int .i64 film]) (by simp) ?_
 have L := Below.refl w.heap.size w
 refine E.cs (E.cl ?_)
 refine E.GL.st rfl rfl rfl (E.ST.box rfl rfl fun g2 w2 e2 b2 l2 => ?_)
 have h2_L : w.heap.size ≤ g2 := by rw [e2]; exact L.size
 replace L := below_step L l2
 refine E.GL.st rfl rfl rfl (E.ST.alloc rfl info36z fun g4 w4 e4 b4 l4 => ?_)
 have h4_L : w.heap.size ≤ g4 := by rw [e4]; exact L.size
 have n4_b2 : g2 ≠ g4 := by have := blk_lt b2; omega
 replace b2 := blk_below b2 l4
 replace L := below_step L l4
 refine E.ga rfl rfl rfl (E.gd (E.qc (E.cs (E.cs (E.cl (E.ga rfl rfl rfl (E.gd (E.qc (E.CG.block ?_)))))))))
 have s2_b2 := b2
 have s2_b4 := b4
 have s2_L := L
 refine E.CG.loop (fun (i : Nat) => [(1, .int .i64 film), (2, .pointer (some ⟨g2, 0, none⟩)), (4, .pointer (some ⟨g4, 0, none⟩)), (6, .int .i64 i)]) (fun i w' => i ≤ V.cs.length ∧ (∀ k, k < i → ∀ x, V.cs[k]? = some x → x.f0 ≠ film) ∧ w'.heap[g2]? = some (.cells #[.int .i64 V.tax, .slice m.A V.cs.length m.a, .slice m.B V.rs.length m.b] 29 (0, 0)) ∧ w'.heap[g4]? = some (.cells #[.int .i64 0, .int .i64 0, .int .i64 0, .slice none 0 0, .slice none 0 0, .int .i64 0, .int .i64 0, .int .i64 0, .int .i64 0] 36 (0, 0)) ∧ Below w.heap.size w w') (fun i => V.cs.length - i) 0 (E.subc rfl (E.subc rfl (E.subc rfl (E.subc rfl E.subn)))) ⟨Nat.zero_le _, fun k hk => by omega, b2, b4, L⟩ ?_
 rintro i w2 ⟨hi, hok, b2, b4, L⟩
 refine E.cs (E.cs (E.cl (E.gm rfl rfl rfl (E.gr rfl (E.Runs.fieldAddr rfl rfl hu29 rfl (by assumption) rfl) ?_))))
 refine E.gr rfl (E.Runs.load1 rfl rfl hu26 rfl (by first | assumption | exact E.blkc (by assumption) rfl | exact pw_cell_below L (by assumption))) ?_
 refine E.gr rfl (E.Runs.len rfl rfl hu26) ?_
 refine E.GL.cmp rfl rfl rfl (fun _ h => (E.Runs.lss rfl rfl rfl h)) (fun h11 => ?_) (fun h11 => ?_)
 ·obtain ⟨x, hx⟩ := get_ex (show i < V.cs.length by omega)
  obtain ⟨ad, a3, k3, a4, k4, eA, hx0, X⟩ := con_at hc hx
  refine E.gd (E.qc (E.CG.cond_t rfl (E.CG.skip (E.qc (E.cs (E.CG.block (E.cs (E.cl (E.gr rfl (E.Runs.fieldAddr rfl rfl hu29 rfl (by assumption) rfl) ?_)))))))))
  refine E.gr rfl (E.Runs.load1 rfl rfl hu26 rfl (by first | assumption | exact E.blkc (by assumption) rfl | exact pw_cell_below L (by assumption))) ?_
  refine E.gm rfl rfl rfl (E.gr rfl (E.Runs.indexAddrA (i := i) rfl rfl rfl hu26 z36 o36 (by omega) eA rfl) ?_)
  refine E.gr rfl (E.Runs.fieldAddr rfl rfl hu36 rfl (by assumption) rfl) ?_
  refine E.gr rfl (E.Runs.load rfl rfl hu3 (pw_cell_below L (X 0 _ rfl))) ?_
  refine E.gm rfl rfl rfl ?_
  refine E.GL.cmp rfl rfl rfl (fun _ h => (E.Runs.eql rfl rfl rfl h)) (fun h21 => ?_) (fun h21 => ?_)
  ·have hxf := h21
   refine E.gd (E.qc (E.CG.cond_t rfl (E.cs (E.cl (E.gr rfl (E.Runs.fieldAddr rfl rfl hu29 rfl (by assumption) rfl) ?_)))))
   refine E.gr rfl (E.Runs.load1 rfl rfl hu26 rfl (by first | assumption | exact E.blkc (by assumption) rfl | exact pw_cell_below L (by assumption))) ?_
   refine E.gm rfl rfl rfl (E.gr rfl (E.Runs.indexAddrA (i := i) rfl rfl rfl hu26 z36 o36 (by omega) eA rfl) ?_)
   refine E.gr rfl (E.Runs.loads (cs := [.int .i64 x.f0, .int .i64 x.f1, .int .i64 x.f2, .slice a3 x.f3.length k3, .slice a4 x.f4.length k4, .int .i64 x.f5, .int .i64 x.f6, .int .i64 x.f7, .int .i64 x.f8]) rfl rfl hu36 rfl info36s (fun j v hv => pw_cell_below L (X j v hv))) ?_
   refine E.GL.store_whole rfl rfl rfl rfl rfl b4 rfl info36s (con_one _ _ _ _ _ _ _ _ _ _ _ _ _) fun wS5_5 c4 lS5_5 => ?_
   replace b2 := blk_grown b2 lS5_5 (E.nes (by first | assumption | exact Ne.symm (by assumption)))
   replace L := E.below_own L h4_L lS5_5
   replace b4 := c4
   clear c4
   refine E.ga rfl rfl rfl (E.gd (E.qc (E.CG.ret (E.QG.block_ret (E.QG.pass_ret (E.QG.pass_ret (E.QG.block_ret (E.QG.pass_ret ?_))))))))
   exact E.QG.result_ct rfl rfl b4 hu36 rfl info36s rfl ⟨x, a3, k3, a4, k4, true, rfl, ⟨hx0.below L, fun _ => ⟨mem_of hx, hxf⟩, (fun q => by cases q)⟩, L⟩
  ·refine E.gd (E.qc (E.CG.cond_f rfl (E.CG.skip (E.QG.block_normal (E.qc (E.cl (E.gm rfl rfl rfl (E.gr rfl (E.Runs.add rfl rfl rfl (IntWalk.i64_in _ (by omega))) ?_))))))))
   refine E.ga rfl rfl rfl (E.gd ?_)
   exact E.QG.round (i + 1) (E.subc rfl (E.subc rfl (E.subc rfl (E.subc rfl E.subn)))) ⟨by omega, all_more hok hx h21, b2, b4, L⟩ (by omega)
 ·refine E.gd (E.qc (E.CG.cond_f rfl (E.CG.exit (E.QG.pass_exit (E.QG.pass_exit (E.QG.block_here (E.qc (E.cs (E.cl ?_)))))))))
  refine E.gr rfl (E.Runs.build rfl E.epn build36z) ?_
  refine E.GL.store_whole rfl rfl rfl rfl rfl b4 rfl info36s (con_one _ _ _ _ _ _ _ _ _ _ _ _ _) fun wS6_1 c4 lS6_1 => ?_
  replace b2 := blk_grown b2 lS6_1 (E.nes (by first | assumption | exact Ne.symm (by assumption)))
  replace L := E.below_own L h4_L lS6_1
  replace b4 := c4
  clear c4
  refine E.ga rfl rfl rfl (E.gd (E.qc (E.CG.ret ?_)))
  exact E.QG.result_ct rfl rfl b4 hu36 rfl info36s rfl ⟨zC, none, 0, none, 0, false, rfl, ⟨CM.zero _, (fun q => by cases q), fun _ => all_done hok (by omega)⟩, L⟩

end Go.Proofs.Ytkjefnlhhfpllaa.T
namespace Go.Proofs.Ytkjefnlhhfpllaa.T
open Go.RowKit Go.Proofs.YtkjefnlhhfpllaaW.PrintWords Go.Proofs.YtkjefnlhhfpllaaW.PrintMore
open Go.Proofs.Ytkjefnlhhfpllaa.P
set_option linter.unusedVariables false
set_option linter.unusedSimpArgs false
/-- An account: gross, tax, net, share, house, rule. -/
structure Ac where
 f0 : Int
 f1 : Int
 f2 : Int
 f3 : Int
 f4 : Int
 f5 : Int
instance : DecidableEq Ac := fun x y => if h : x.f0 = y.f0 ∧ x.f1 = y.f1 ∧ x.f2 = y.f2 ∧ x.f3 = y.f3 ∧ x.f4 = y.f4 ∧ x.f5 = y.f5 then isTrue (by obtain ⟨a0, a1, a2, a3, a4, a5⟩ := x; obtain ⟨b0, b1, b2, b3, b4, b5⟩ := y; obtain ⟨h0, h1, h2, h3, h4, h5⟩ := h; cases h0; cases h1; cases h2; cases h3; cases h4; cases h5; rfl) else isFalse fun q => by subst q; exact h ⟨rfl, rfl, rfl, rfl, rfl, rfl⟩
/-- A place: state, row, seat, size. -/
structure Pl where
 f0 : Int
 f1 : Int
 f2 : Int
 f3 : Int
instance : DecidableEq Pl := fun x y => if h : x.f0 = y.f0 ∧ x.f1 = y.f1 ∧ x.f2 = y.f2 ∧ x.f3 = y.f3 then isTrue (by obtain ⟨a0, a1, a2, a3⟩ := x; obtain ⟨b0, b1, b2, b3⟩ := y; obtain ⟨h0, h1, h2, h3⟩ := h; cases h0; cases h1; cases h2; cases h3; rfl) else isFalse fun q => by subst q; exact h ⟨rfl, rfl, rfl, rfl⟩
set_option maxRecDepth 100000 in
set_option maxHeartbeats 4000000 in
theorem equal55 (x y : S55) (W : World) : (Op.equal 55 (.agg #[.int .i64 x.f0, .int .i64 x.f1, .int .i64 x.f2, .int .i64 x.f3, .int .i64 x.f4, .int .i64 x.f5]) (.agg #[.int .i64 y.f0, .int .i64 y.f1, .int .i64 y.f2, .int .i64 y.f3, .int .i64 y.f4, .int .i64 y.f5])).run Try.prog W = .ok (decide (x = y)) W := by
 have hu55 := Try.underlying55
 have hu3 := Try.underlying3
 have e : decide (x = y) = (decide (x.f0 = y.f0) && (decide (x.f1 = y.f1) && (decide (x.f2 = y.f2) && (decide (x.f3 = y.f3) && (decide (x.f4 = y.f4) && decide (x.f5 = y.f5)))))) := by
  obtain ⟨a0, a1, a2, a3, a4, a5⟩ := x
  obtain ⟨b0, b1, b2, b3, b4, b5⟩ := y
  simp
 rw [e]
 show (Op.equalIn (9999 + 1) 55 _ _).run Try.prog W = _
 refine eqA_of hu55 (by kernel_rfl) ?_
 refine eqf_cons (a := .int .i64 x.f0) (b := .int .i64 y.f0) (r := decide (x.f0 = y.f0)) (by rfl) (by go_simp) (by go_simp) (run_equalIn_int W 9998 3 .i64 .i64 x.f0 y.f0 hu3) ?_
 refine eqf_cons (a := .int .i64 x.f1) (b := .int .i64 y.f1) (r := decide (x.f1 = y.f1)) (by rfl) (by go_simp) (by go_simp) (run_equalIn_int W 9998 3 .i64 .i64 x.f1 y.f1 hu3) ?_
 refine eqf_cons (a := .int .i64 x.f2) (b := .int .i64 y.f2) (r := decide (x.f2 = y.f2)) (by rfl) (by go_simp) (by go_simp) (run_equalIn_int W 9998 3 .i64 .i64 x.f2 y.f2 hu3) ?_
 refine eqf_cons (a := .int .i64 x.f3) (b := .int .i64 y.f3) (r := decide (x.f3 = y.f3)) (by rfl) (by go_simp) (by go_simp) (run_equalIn_int W 9998 3 .i64 .i64 x.f3 y.f3 hu3) ?_
 refine eqf_cons (a := .int .i64 x.f4) (b := .int .i64 y.f4) (r := decide (x.f4 = y.f4)) (by rfl) (by go_simp) (by go_simp) (run_equalIn_int W 9998 3 .i64 .i64 x.f4 y.f4 hu3) ?_
 exact eqf_last (a := .int .i64 x.f5) (b := .int .i64 y.f5) (r := decide (x.f5 = y.f5)) (by rfl) (by go_simp) (by go_simp) (run_equalIn_int W 9998 3 .i64 .i64 x.f5 y.f5 hu3)
set_option maxRecDepth 100000 in
set_option maxHeartbeats 4000000 in
theorem equal64 (x y : S64) (W : World) : (Op.equal 64 (.agg #[.int .i64 x.f0, .int .i64 x.f1, .int .i64 x.f2, .int .i64 x.f3, .int .i64 x.f4]) (.agg #[.int .i64 y.f0, .int .i64 y.f1, .int .i64 y.f2, .int .i64 y.f3, .int .i64 y.f4])).run Try.prog W = .ok (decide (x = y)) W := by
 have hu64 := Try.underlying64
 have hu3 := Try.underlying3
 have e : decide (x = y) = (decide (x.f0 = y.f0) && (decide (x.f1 = y.f1) && (decide (x.f2 = y.f2) && (decide (x.f3 = y.f3) && decide (x.f4 = y.f4))))) := by
  obtain ⟨a0, a1, a2, a3, a4⟩ := x
  obtain ⟨b0, b1, b2, b3, b4⟩ := y
  simp
 rw [e]
 show (Op.equalIn (9999 + 1) 64 _ _).run Try.prog W = _
 refine eqA_of hu64 (by kernel_rfl) ?_
 refine eqf_cons (a := .int .i64 x.f0) (b := .int .i64 y.f0) (r := decide (x.f0 = y.f0)) (by rfl) (by go_simp) (by go_simp) (run_equalIn_int W 9998 3 .i64 .i64 x.f0 y.f0 hu3) ?_
 refine eqf_cons (a := .int .i64 x.f1) (b := .int .i64 y.f1) (r := decide (x.f1 = y.f1)) (by rfl) (by go_simp) (by go_simp) (run_equalIn_int W 9998 3 .i64 .i64 x.f1 y.f1 hu3) ?_
 refine eqf_cons (a := .int .i64 x.f2) (b := .int .i64 y.f2) (r := decide (x.f2 = y.f2)) (by rfl) (by go_simp) (by go_simp) (run_equalIn_int W 9998 3 .i64 .i64 x.f2 y.f2 hu3) ?_
 refine eqf_cons (a := .int .i64 x.f3) (b := .int .i64 y.f3) (r := decide (x.f3 = y.f3)) (by rfl) (by go_simp) (by go_simp) (run_equalIn_int W 9998 3 .i64 .i64 x.f3 y.f3 hu3) ?_
 exact eqf_last (a := .int .i64 x.f4) (b := .int .i64 y.f4) (r := decide (x.f4 = y.f4)) (by rfl) (by go_simp) (by go_simp) (run_equalIn_int W 9998 3 .i64 .i64 x.f4 y.f4 hu3)
set_option maxRecDepth 100000 in
set_option maxHeartbeats 4000000 in
theorem equal57 (x y : Ac) (W : World) : (Op.equal 57 (.agg #[.int .i64 x.f0, .int .i64 x.f1, .int .i64 x.f2, .int .i64 x.f3, .int .i64 x.f4, .int .i64 x.f5]) (.agg #[.int .i64 y.f0, .int .i64 y.f1, .int .i64 y.f2, .int .i64 y.f3, .int .i64 y.f4, .int .i64 y.f5])).run Try.prog W = .ok (decide (x = y)) W := by
 have hu57 := Try.underlying57
 have hu3 := Try.underlying3
 have e : decide (x = y) = (decide (x.f0 = y.f0) && (decide (x.f1 = y.f1) && (decide (x.f2 = y.f2) && (decide (x.f3 = y.f3) && (decide (x.f4 = y.f4) && decide (x.f5 = y.f5)))))) := by
  obtain ⟨a0, a1, a2, a3, a4, a5⟩ := x
  obtain ⟨b0, b1, b2, b3, b4, b5⟩ := y
  simp
 rw [e]
 show (Op.equalIn (9999 + 1) 57 _ _).run Try.prog W = _
 refine eqA_of hu57 (by kernel_rfl) ?_
 refine eqf_cons (a := .int .i64 x.f0) (b := .int .i64 y.f0) (r := decide (x.f0 = y.f0)) (by rfl) (by go_simp) (by go_simp) (run_equalIn_int W 9998 3 .i64 .i64 x.f0 y.f0 hu3) ?_
 refine eqf_cons (a := .int .i64 x.f1) (b := .int .i64 y.f1) (r := decide (x.f1 = y.f1)) (by rfl) (by go_simp) (by go_simp) (run_equalIn_int W 9998 3 .i64 .i64 x.f1 y.f1 hu3) ?_
 refine eqf_cons (a := .int .i64 x.f2) (b := .int .i64 y.f2) (r := decide (x.f2 = y.f2)) (by rfl) (by go_simp) (by go_simp) (run_equalIn_int W 9998 3 .i64 .i64 x.f2 y.f2 hu3) ?_
 refine eqf_cons (a := .int .i64 x.f3) (b := .int .i64 y.f3) (r := decide (x.f3 = y.f3)) (by rfl) (by go_simp) (by go_simp) (run_equalIn_int W 9998 3 .i64 .i64 x.f3 y.f3 hu3) ?_
 refine eqf_cons (a := .int .i64 x.f4) (b := .int .i64 y.f4) (r := decide (x.f4 = y.f4)) (by rfl) (by go_simp) (by go_simp) (run_equalIn_int W 9998 3 .i64 .i64 x.f4 y.f4 hu3) ?_
 exact eqf_last (a := .int .i64 x.f5) (b := .int .i64 y.f5) (r := decide (x.f5 = y.f5)) (by rfl) (by go_simp) (by go_simp) (run_equalIn_int W 9998 3 .i64 .i64 x.f5 y.f5 hu3)
set_option maxRecDepth 100000 in
set_option maxHeartbeats 4000000 in
theorem equal50 (x y : Pl) (W : World) : (Op.equal 50 (.agg #[.int .i64 x.f0, .int .i64 x.f1, .int .i64 x.f2, .int .i64 x.f3]) (.agg #[.int .i64 y.f0, .int .i64 y.f1, .int .i64 y.f2, .int .i64 y.f3])).run Try.prog W = .ok (decide (x = y)) W := by
 have hu50 := Try.underlying50
 have hu3 := Try.underlying3
 have e : decide (x = y) = (decide (x.f0 = y.f0) && (decide (x.f1 = y.f1) && (decide (x.f2 = y.f2) && decide (x.f3 = y.f3)))) := by
  obtain ⟨a0, a1, a2, a3⟩ := x
  obtain ⟨b0, b1, b2, b3⟩ := y
  simp
 rw [e]
 show (Op.equalIn (9999 + 1) 50 _ _).run Try.prog W = _
 refine eqA_of hu50 (by kernel_rfl) ?_
 refine eqf_cons (a := .int .i64 x.f0) (b := .int .i64 y.f0) (r := decide (x.f0 = y.f0)) (by rfl) (by go_simp) (by go_simp) (run_equalIn_int W 9998 3 .i64 .i64 x.f0 y.f0 hu3) ?_
 refine eqf_cons (a := .int .i64 x.f1) (b := .int .i64 y.f1) (r := decide (x.f1 = y.f1)) (by rfl) (by go_simp) (by go_simp) (run_equalIn_int W 9998 3 .i64 .i64 x.f1 y.f1 hu3) ?_
 refine eqf_cons (a := .int .i64 x.f2) (b := .int .i64 y.f2) (r := decide (x.f2 = y.f2)) (by rfl) (by go_simp) (by go_simp) (run_equalIn_int W 9998 3 .i64 .i64 x.f2 y.f2 hu3) ?_
 exact eqf_last (a := .int .i64 x.f3) (b := .int .i64 y.f3) (r := decide (x.f3 = y.f3)) (by rfl) (by go_simp) (by go_simp) (run_equalIn_int W 9998 3 .i64 .i64 x.f3 y.f3 hu3)
end Go.Proofs.Ytkjefnlhhfpllaa.T
namespace Go.Proofs.Ytkjefnlhhfpllaa.T
open Go.RowKit Go.Proofs.YtkjefnlhhfpllaaW.PrintWords Go.Proofs.YtkjefnlhhfpllaaW.PrintMore
open Go.Proofs.Ytkjefnlhhfpllaa.P
set_option linter.unusedVariables false
set_option linter.unusedSimpArgs false
def zR : S55 := ⟨0, 0, 0, 0, 0, 0⟩
/-- The elements j and j + 1 exchanged. -/
def swp (l : List S55) (j : Nat) : List S55 := (l.set (j + 1) (l.getD j zR)).set j (l.getD (j + 1) zR)
/-- An element moved down to its place. -/
def down : List S55 → Nat → List S55
 | l, 0 => l
 | l, j + 1 => if (l.getD (j + 1) zR).f0 < (l.getD j zR).f0 then down (swp l j) j else l
/-- The first rounds of the sort. -/
def insT (l : List S55) : Nat → List S55
 | 0 => l
 | n + 1 => down (insT l n) (n + 1)
def srt (l : List S55) : List S55 := insT l (l.length - 1)
/-- The numbers of reports are within their bounds. -/
def Idr (l : List S55) : Prop := ∀ x ∈ l, inR x.f0 0 99
theorem swp_len (l : List S55) (j : Nat) : (swp l j).length = l.length := by unfold swp; rw [List.length_set, List.length_set]
theorem getD_el {α : Type} {l : List α} {i : Nat} {x z : α} (h : l[i]? = some x) : l.getD i z = x := by rw [List.getD_eq_getElem?_getD, h]; rfl
theorem mem_set {α : Type} {l : List α} {i : Nat} {a x : α} (h : x ∈ l.set i a) : x ∈ l ∨ x = a := by
 induction l generalizing i with
 | nil => simp at h
 | cons y r ih =>
  cases i with
  | zero => simp at h; rcases h with h | h <;> simp [h]
  | succ i =>
   rw [List.set_cons_succ, List.mem_cons] at h
   rcases h with h | h
   ·simp [h]
   ·rcases ih h with q | q <;> simp [q]
theorem swp_idr {l : List S55} {j : Nat} (h : Idr l) (hj : j + 1 < l.length) : Idr (swp l j) := fun x hx => by
 obtain ⟨a, ha⟩ := get_ex (show j < l.length by omega)
 obtain ⟨b, hb⟩ := get_ex hj
 unfold swp at hx
 rw [getD_el ha, getD_el hb] at hx
 rcases mem_set hx with hx | rfl
 ·rcases mem_set hx with hx | rfl
  ·exact h x hx
  ·exact h x (mem_of ha)
 ·exact h x (mem_of hb)
theorem down_len : ∀ (j : Nat) (l : List S55), (down l j).length = l.length
 | 0, l => rfl
 | j + 1, l => by
  unfold down
  split
  ·rw [down_len j, swp_len]
  ·rfl
theorem insT_len (l : List S55) : ∀ n, (insT l n).length = l.length
 | 0 => rfl
 | n + 1 => by unfold insT; rw [down_len, insT_len l n]
/-- What differs from the one ahead of it. -/
def cgo {α : Type} [DecidableEq α] : α → List α → List α
 | _, [] => []
 | x, y :: r => if y = x then cgo x r else y :: cgo y r
/-- Runs of equal elements, each as one. -/
def cpt {α : Type} [DecidableEq α] : List α → List α
 | [] => []
 | x :: r => x :: cgo x r
theorem cgo_snoc {α : Type} [DecidableEq α] : ∀ (r : List α) (x a : α), cgo x (r ++ [a]) = if a = (x :: r).getLast (by simp) then cgo x r else cgo x r ++ [a]
 | [], x, a => by
  simp only [List.nil_append, cgo, List.getLast_singleton]
  rfl
 | y :: r, x, a => by
  simp only [List.cons_append, cgo]
  have hl : (x :: y :: r).getLast (by simp) = (y :: r).getLast (by simp) := List.getLast_cons (by simp)
  rw [hl]
  by_cases h : y = x
  ·rw [if_pos h, if_pos h, cgo_snoc r x a]
   subst h
   rfl
  ·rw [if_neg h, if_neg h, cgo_snoc r y a]
   split <;> simp
theorem cpt_snoc {α : Type} [DecidableEq α] {l : List α} {x a : α} {p : Nat} (hp : l.length = p + 1) (hx : l[p]? = some x) : cpt (l ++ [a]) = if a = x then cpt l else cpt l ++ [a] := by
 cases l with
 | nil => simp at hp
 | cons y r =>
  have e : (y :: r).getLast (by simp) = x := by
   rw [List.getLast_eq_getElem]
   have h2 := (List.getElem?_eq_some_iff.1 hx).2
   rw [← h2]
   congr 1
   simp at hp
   simp [hp]
  simp only [List.cons_append, cpt, cgo_snoc, e]
  split <;> simp
theorem cgo_len {α : Type} [DecidableEq α] : ∀ (r : List α) (x : α), (cgo x r).length ≤ r.length
 | [], x => Nat.le_refl _
 | y :: r, x => by
  unfold cgo
  split
  ·have := cgo_len r x; simp; omega
  ·have := cgo_len r y; simp; omega
theorem cpt_len {α : Type} [DecidableEq α] (l : List α) : (cpt l).length ≤ l.length := by
 cases l with
 | nil => exact Nat.le_refl _
 | cons x r => have := cgo_len r x; simp [cpt]; omega
theorem cpt_mem {α : Type} [DecidableEq α] {l : List α} {z : α} (h : z ∈ cpt l) : z ∈ l := by
 have go : ∀ (r : List α) (x : α), z ∈ cgo x r → z ∈ r := by
  intro r
  induction r with
  | nil => intro x h; exact h
  | cons y r ih =>
   intro x h
   unfold cgo at h
   split at h
   ·exact List.mem_cons_of_mem _ (ih _ h)
   ·rw [List.mem_cons] at h
    rcases h with h | h
    ·rw [h]; exact List.mem_cons_self
    ·exact List.mem_cons_of_mem _ (ih _ h)
 cases l with
 | nil => exact h
 | cons x r =>
  unfold cpt at h
  rw [List.mem_cons] at h
  rcases h with h | h
  ·rw [h]; exact List.mem_cons_self
  ·exact List.mem_cons_of_mem _ (go r x h)
/-- While no two neighbours are equal, all stay. -/
theorem cpt_same {α : Type} [DecidableEq α] {l : List α} : ∀ {i : Nat}, i ≤ l.length → (∀ (j : Nat) (x y : α), j + 1 < i → l[j]? = some x → l[j + 1]? = some y → y ≠ x) → cpt (l.take i) = l.take i
 | 0, _, _ => by simp [cpt]
 | 1, h, _ => by
  obtain ⟨x, hx⟩ := get_ex (show 0 < l.length by omega)
  cases l with
  | nil => simp at hx
  | cons y r => simp [cpt, cgo]
 | i + 2, h, k => by
  have ih := cpt_same (l := l) (i := i + 1) (by omega) (fun j x y hj => k j x y (by omega))
  obtain ⟨x, hx⟩ := get_ex (show i < l.length by omega)
  obtain ⟨y, hy⟩ := get_ex (show i + 1 < l.length by omega)
  have e : l.take (i + 2) = l.take (i + 1) ++ [y] := by rw [List.take_add_one, hy]; rfl
  rw [e, cpt_snoc (p := i) (x := x) (by rw [List.length_take]; omega) (by rw [List.getElem?_take, if_pos (by omega)]; exact hx), if_neg (k i x y (by omega) hx hy), ih]
theorem take_one {α : Type} {l : List α} {i : Nat} {y : α} (h : l[i]? = some y) : l.take (i + 1) = l.take i ++ [y] := by rw [List.take_add_one, h]; rfl
/-- An element of a row of our own, and what a write makes of it. -/
theorem el_own {α : Type} {d : Kd α} {ce : α → List Value} (hM : ∀ {w : World} {base : Nat} {ok : Nat → Prop} {x : α} {cs : List Value}, d.M w base ok x cs → cs = ce x) (mk : ∀ (w : World) (base : Nat) (ok : Nat → Prop) (x : α), d.M w base ok x (ce x)) (hl : ∀ x, (ce x).length = d.sz)
  {W : World} {e base g n c : Nat} {xs : List α} {i : Nat} {x : α} (R : Kd.R d e W base (fun _ => True) (.slice (some ⟨g, 0, none⟩) n c) xs) (hi : xs[i]? = some x) :
  (∀ j u, (ce x)[j]? = some u → W.cell? ⟨g, i * d.sz + j, none⟩ = some u) ∧ W.there g (i * d.sz) d.sz ∧ ∀ y : α, Kd.R d e (W.setCells g (i * d.sz) (ce y)) base (fun _ => True) (.slice (some ⟨g, 0, none⟩) n c) (xs.set i y) ∧ W.grownBy (W.setCells g (i * d.sz) (ce y)) (some g) := by
 have hil := (List.getElem?_eq_some_iff.1 hi).1
 have hn := (Kd.R_reads' R).1
 obtain ⟨cs, h1, h2, h3, h4⟩ := Kd.R_elem R x (i : Int) (by omega) (by omega)
 have hx : xs.getD i x = x := by simp [List.getD_eq_getElem?_getD, hi]
 rw [Int.toNat_natCast, hx] at h2
 have hcs := hM h2
 subst hcs
 rw [Int.toNat_natCast] at h3 h4
 refine ⟨h3, fun j hj => ⟨?_, h4 j⟩, fun y => ?_⟩
 ·obtain ⟨u, hu⟩ := get_ex (show j < (ce x).length by rw [hl]; exact hj)
  rw [h3 j u hu]
  rfl
 ·have := Kd.R_seg R (i : Int) (by omega) (by omega) (seg := ce y) (j := 0) h1 (by rw [Int.toNat_natCast]; exact h3) (by rw [hl, Nat.zero_add]; exact Nat.le_refl _) (x' := y) (okp := fun _ => False) (by
   rw [List.take_zero, List.nil_append, Nat.zero_add, List.drop_eq_nil_of_le (by rw [hl, hl]; exact Nat.le_refl _), List.append_nil]
   exact mk _ _ _ y) (fun _ hk => hk.elim)
  rw [Int.toNat_natCast] at this
  exact this
theorem rep_own {W : World} {base g n c : Nat} {xs : List S55} {i : Nat} {x : S55} (R : Kd.R k55 55 W base (fun _ => True) (.slice (some ⟨g, 0, none⟩) n c) xs) (hi : xs[i]? = some x) :
  (∀ j u, (rC x)[j]? = some u → W.cell? ⟨g, i * 6 + j, none⟩ = some u) ∧ W.there g (i * 6) 6 ∧ ∀ y : S55, Kd.R k55 55 (W.setCells g (i * 6) (rC y)) base (fun _ => True) (.slice (some ⟨g, 0, none⟩) n c) (xs.set i y) ∧ W.grownBy (W.setCells g (i * 6) (rC y)) (some g) :=
 el_own (d := k55) (ce := rC) k55_openM k55_mkM (fun _ => rfl) R hi
theorem call_own {W : World} {base g n c : Nat} {xs : List S64} {i : Nat} {x : S64} (R : Kd.R k64 64 W base (fun _ => True) (.slice (some ⟨g, 0, none⟩) n c) xs) (hi : xs[i]? = some x) :
  (∀ j u, (lC x)[j]? = some u → W.cell? ⟨g, i * 5 + j, none⟩ = some u) ∧ W.there g (i * 5) 5 ∧ ∀ y : S64, Kd.R k64 64 (W.setCells g (i * 5) (lC y)) base (fun _ => True) (.slice (some ⟨g, 0, none⟩) n c) (xs.set i y) ∧ W.grownBy (W.setCells g (i * 5) (lC y)) (some g) :=
 el_own (d := k64) (ce := lC) k64_openM k64_mkM (fun _ => rfl) R hi
end Go.Proofs.Ytkjefnlhhfpllaa.T
namespace Go.Proofs.Ytkjefnlhhfpllaa.T
open Go.RowKit Go.Proofs.YtkjefnlhhfpllaaW.PrintWords Go.Proofs.YtkjefnlhhfpllaaW.PrintMore
open Go.Proofs.Ytkjefnlhhfpllaa.P
set_option linter.unusedVariables false
set_option linter.unusedSimpArgs false

set_option maxRecDepth 100000 in
set_option maxHeartbeats 8000000 in

theorem clo53 (x y : S55) (hx : inR x.f0 0 99) (hy : inR y.f0 0 99) (w : World) :
  Calls Try.prog 53 #[.agg #[.int .i64 x.f0, .int .i64 x.f1, .int .i64 x.f2, .int .i64 x.f3, .int .i64 x.f4, .int .i64 x.f5], .agg #[.int .i64 y.f0, .int .i64 y.f1, .int .i64 y.f2, .int .i64 y.f3, .int .i64 y.f4, .int .i64 y.f5]] w fun e w' => e = .returned (.int .i64 (x.f0 - y.f0)) ∧ Below w.heap.size w w' := by
 have hu3 := Try.underlying3
 have hu55 := Try.underlying55
 obtain ⟨z3, o3⟩ := info_some info3s (by decide)
 obtain ⟨z55, o55⟩ := info_some info55s (by decide)
 unfold inR at hx hy
 refine E.enter (N := 10) Try.func53 rfl Try.ntmps53 (args := [.agg #[.int .i64 x.f0, .int .i64 x.f1, .int .i64 x.f2, .int .i64 x.f3, .int .i64 x.f4, .int .i64 x.f5], .agg #[.int .i64 y.f0, .int .i64 y.f1, .int .i64 y.f2, .int .i64 y.f3, .int .i64 y.f4, .int .i64 y.f5]]) (by simp) ?_
 have L := Below.refl w.heap.size w
 refine E.cs (E.cl ?_)
 refine E.GL.st rfl rfl rfl (E.ST.box rfl rfl fun g2 w2 e2 b2 l2 => ?_)
 have h2_L : w.heap.size ≤ g2 := by rw [e2]; exact L.size
 replace L := below_step L l2
 refine E.GL.st rfl rfl rfl (E.ST.box rfl rfl fun g3 w3 e3 b3 l3 => ?_)
 have h3_L : w.heap.size ≤ g3 := by rw [e3]; exact L.size
 have n3_b2 : g2 ≠ g3 := by have := blk_lt b2; omega
 replace b2 := blk_below b2 l3
 replace L := below_step L l3
 refine E.ga rfl rfl rfl (E.gd (E.qc (E.cs (E.cl (E.gr rfl (E.Runs.fieldAddr rfl rfl hu55 rfl (by assumption) rfl) ?_)))))
 refine E.gr rfl (E.Runs.load rfl rfl hu3 (by first | assumption | exact E.blkc (by assumption) rfl | exact pw_cell_below L (by assumption))) ?_
 refine E.gr rfl (E.Runs.fieldAddr rfl rfl hu55 rfl (by assumption) rfl) ?_
 refine E.gr rfl (E.Runs.load rfl rfl hu3 (by first | assumption | exact E.blkc (by assumption) rfl | exact pw_cell_below L (by assumption))) ?_
 refine E.gr rfl (E.Runs.sub rfl rfl rfl (IntWalk.i64_in _ (by omega))) ?_
 refine E.ga rfl rfl rfl (E.gd (E.qc (E.CG.ret ?_)))
 exact E.QG.result rfl rfl ⟨rfl, L⟩

set_option maxRecDepth 100000 in
set_option maxHeartbeats 8000000 in

theorem sort77 (w0 : World) (g n c : Nat) (l : List S55) (w : World) (hg : w0.heap.size ≤ g) (K : Below w0.heap.size w0 w) (R : Kd.R k55 55 w w0.heap.size (fun _ => True) (.slice (some ⟨g, 0, none⟩) n c) l) (hl : Idr l) (hn : n = l.length) (hm : n ≤ 1000000) :
  Calls Try.prog 77 #[.slice (some ⟨g, 0, none⟩) n c, .int .i64 0, .int .i64 n, .func (.func 53) #[] #[]] w fun e w' => e = .returned (.tuple #[]) ∧ Kd.R k55 55 w' w0.heap.size (fun _ => True) (.slice (some ⟨g, 0, none⟩) n c) (srt l) ∧ Below w0.heap.size w0 w' := by
 have hu3 := Try.underlying3
 have hu27 := Try.underlying27
 have hu55 := Try.underlying55
 obtain ⟨z3, o3⟩ := info_some info3s (by decide)
 obtain ⟨z27, o27⟩ := info_some info27s (by decide)
 obtain ⟨z55, o55⟩ := info_some info55s (by decide)
 refine E.enter (N := 53) Try.func77 rfl Try.ntmps77 (args := [.slice (some ⟨g, 0, none⟩) n c, .int .i64 0, .int .i64 n, .func (.func 53) #[] #[]]) (by simp) ?_
 
 refine E.cs (E.cl (E.gm rfl rfl rfl (E.gr rfl (E.Runs.add rfl rfl rfl (IntWalk.i64_in _ (by omega))) ?_)))
 refine E.ga rfl rfl rfl (E.gd (E.qc (E.CG.block (E.CG.loop2 (fun (i : Nat) (o : List S55) => [(0, .slice (some ⟨g, 0, none⟩) n c), (1, .int .i64 0), (2, .int .i64 n), (3, .func (.func 53) #[] #[]), (8, .int .i64 i)]) (fun i o w' => 1 ≤ i ∧ (i ≤ n ∨ i = 1) ∧ o = insT l (i - 1) ∧ o.length = n ∧ Idr o ∧ Kd.R k55 55 w' w0.heap.size (fun _ => True) (.slice (some ⟨g, 0, none⟩) n c) o ∧ Below w0.heap.size w0 w') (fun i o => n + 1 - i) 1 l (E.subc rfl (E.subc rfl (E.subc rfl (E.subc rfl (E.subc rfl E.subn))))) ⟨Nat.le_refl _, .inr rfl, rfl, hn.symm, hl, R, K⟩ ?_))))
 rintro i o w1 ⟨hi1, hi2, ho, hlo, hid, R, K⟩
 refine E.cs (E.cs (E.cl (E.gm rfl rfl rfl (E.gm rfl rfl rfl ?_))))
 refine E.GL.cmp rfl rfl rfl (fun _ h => (E.Runs.lss rfl rfl rfl h)) (fun h14 => ?_) (fun h14 => ?_)
 ·refine E.gd (E.qc (E.CG.cond_t rfl (E.CG.skip (E.qc (E.cs (E.CG.block (E.cs (E.cl (E.gm rfl rfl rfl ?_)))))))))
  refine E.ga rfl rfl rfl (E.gd (E.qc (E.CG.block ?_)))
  have s4_K := K
  refine E.CG.loop2 (fun (j : Nat) (o2 : List S55) => [(0, .slice (some ⟨g, 0, none⟩) n c), (1, .int .i64 0), (2, .int .i64 n), (3, .func (.func 53) #[] #[]), (8, .int .i64 i), (9, .int .i64 j)]) (fun j o2 w' => j ≤ i ∧ down o2 j = down o i ∧ o2.length = n ∧ Idr o2 ∧ Kd.R k55 55 w' w0.heap.size (fun _ => True) (.slice (some ⟨g, 0, none⟩) n c) o2 ∧ Below w0.heap.size w0 w') (fun j o2 => j) i o (E.subc rfl (E.subc rfl (E.subc rfl (E.subc rfl (E.subc rfl (E.subc rfl E.subn)))))) ⟨Nat.le_refl _, rfl, hlo, hid, R, K⟩ ?_
  rintro j o2 w4 ⟨hji, hdn, hlo2, hid2, R, K⟩
  refine E.cs (E.cs (E.CG.heldH (none) (by kernel_rfl) fun v4 lD hh => ?_))
  replace R := Kd.R_below R lD
  replace K := below_step K lD
  clear lD
  have s_K := K
  refine E.GH.take (i := 0) rfl (by kernel_rfl) (by kernel_rfl) (by kernel_rfl) (by intro c a d v w h; first | (cases d <;> exact h) | exact nomatch (show _ ∧ _ from h).1) rfl rfl rfl (fun w' hS => (E.Runs.move rfl rfl)) ?_
  refine E.GH.take (i := 1) rfl (by kernel_rfl) (by kernel_rfl) (by kernel_rfl) (by intro c a d v w h; first | (cases d <;> exact h) | exact nomatch (show _ ∧ _ from h).1) rfl rfl rfl (fun w' hS => (E.Runs.move rfl rfl)) ?_
  refine E.GH.cmp (i := 2) rfl (by kernel_rfl) (by kernel_rfl) (by kernel_rfl) (by intro c a d v w h; first | (cases d <;> exact h) | exact nomatch (show _ ∧ _ from h).1) rfl rfl rfl (fun _ h w' hS => (E.Runs.gtr rfl rfl rfl h)) (fun h20 => ?_) (fun h20 => ?_)
  ·obtain ⟨x, hx⟩ := get_ex (show j < o2.length by omega)
   obtain ⟨y, hy⟩ := get_ex (show j - 1 < o2.length by omega)
   obtain ⟨X, t1, hs1⟩ := rep_own R hx
   obtain ⟨Y, _, _⟩ := rep_own R hy
   have hxr := hid2 x (mem_of hx)
   have hyr := hid2 y (mem_of hy)
   have hstep : down o2 j = if x.f0 < y.f0 then down (swp o2 (j - 1)) (j - 1) else o2 := by
    obtain ⟨q, rfl⟩ : ∃ q, j = q + 1 := ⟨j - 1, by omega⟩
    rw [Nat.add_sub_cancel] at hy ⊢
    show (if _ then _ else _) = _
    rw [getD_el hx, getD_el hy]
   refine E.GH.take (i := 3) rfl (by kernel_rfl) (by kernel_rfl) (by kernel_rfl) (by intro c a d v w h; first | (cases d <;> exact h) | exact nomatch (show _ ∧ _ from h).1) rfl rfl rfl (fun w' hS => (E.Runs.move rfl rfl)) ?_
   refine E.GH.take (i := 4) rfl (by kernel_rfl) (by kernel_rfl) (by kernel_rfl) (by intro c a d v w h; first | (cases d <;> exact h) | exact nomatch (show _ ∧ _ from h).1) rfl rfl rfl (fun w' hS => (E.Runs.move rfl rfl)) ?_
   refine E.GH.take (i := 5) rfl (by kernel_rfl) (by kernel_rfl) (by kernel_rfl) (by intro c a d v w h; first | (cases d <;> exact h) | exact nomatch (show _ ∧ _ from h).1) rfl rfl rfl (fun w' hS => (E.Runs.move rfl rfl)) ?_
   refine E.GH.take (i := 6) rfl (by kernel_rfl) (by kernel_rfl) (by kernel_rfl) (by intro c a d v w h; first | (cases d <;> exact h) | exact nomatch (show _ ∧ _ from h).1) rfl rfl rfl (fun w' hS => (E.Runs.move rfl rfl)) ?_
   refine E.GH.take (i := 7) rfl (by kernel_rfl) (by kernel_rfl) (by kernel_rfl) (by intro c a d v w h; first | (cases d <;> exact h) | exact nomatch (show _ ∧ _ from h).1) rfl rfl rfl (fun w' hS => (E.Runs.indexAddrA (i := j) rfl rfl rfl hu27 z55 o55 (by omega) rfl (show _ = (⟨g, j * 6, none⟩ : Addr) from by rw [Go.Addr.add_mid, Nat.zero_add]))) ?_
   refine E.GH.take (i := 8) rfl (by kernel_rfl) (by kernel_rfl) (by kernel_rfl) (by intro c a d v w h; first | (cases d <;> exact h) | exact nomatch (show _ ∧ _ from h).1) rfl rfl rfl (fun w' hS => (E.Runs.loads (cs := [.int .i64 x.f0, .int .i64 x.f1, .int .i64 x.f2, .int .i64 x.f3, .int .i64 x.f4, .int .i64 x.f5]) rfl rfl hu55 rfl info55s (fun q v hv => by rw [Go.Addr.add_mid]; exact E.keeps hS (X q v hv) E.nen))) ?_
   refine E.GH.take (i := 9) rfl (by kernel_rfl) (by kernel_rfl) (by kernel_rfl) (by intro c a d v w h; first | (cases d <;> exact h) | exact nomatch (show _ ∧ _ from h).1) rfl rfl rfl (fun w' hS => (E.Runs.move rfl rfl)) ?_
   refine E.GH.take (i := 10) rfl (by kernel_rfl) (by kernel_rfl) (by kernel_rfl) (by intro c a d v w h; first | (cases d <;> exact h) | exact nomatch (show _ ∧ _ from h).1) rfl rfl rfl (fun w' hS => (E.Runs.move rfl rfl)) ?_
   refine E.GH.take (i := 11) rfl (by kernel_rfl) (by kernel_rfl) (by kernel_rfl) (by intro c a d v w h; first | (cases d <;> exact h) | exact nomatch (show _ ∧ _ from h).1) rfl rfl rfl (fun w' hS => (E.Runs.sub rfl rfl rfl ((IntWalk.i64_in _ (by omega)).trans (show _ = ((j - 1 : Nat) : Int) from by omega)))) ?_
   refine E.GH.take (i := 12) rfl (by kernel_rfl) (by kernel_rfl) (by kernel_rfl) (by intro c a d v w h; first | (cases d <;> exact h) | exact nomatch (show _ ∧ _ from h).1) rfl rfl rfl (fun w' hS => (E.Runs.indexAddrA (i := (j - 1)) rfl rfl rfl hu27 z55 o55 (by omega) rfl (show _ = (⟨g, (j - 1) * 6, none⟩ : Addr) from by rw [Go.Addr.add_mid, Nat.zero_add]))) ?_
   refine E.GH.take (i := 13) rfl (by kernel_rfl) (by kernel_rfl) (by kernel_rfl) (by intro c a d v w h; first | (cases d <;> exact h) | exact nomatch (show _ ∧ _ from h).1) rfl rfl rfl (fun w' hS => (E.Runs.loads (cs := [.int .i64 y.f0, .int .i64 y.f1, .int .i64 y.f2, .int .i64 y.f3, .int .i64 y.f4, .int .i64 y.f5]) rfl rfl hu55 rfl info55s (fun q v hv => by rw [Go.Addr.add_mid]; exact E.keeps hS (Y q v hv) E.nen))) ?_
   refine E.GH.one (i := 14) (by kernel_rfl) rfl ?_
   refine E.GO.st rfl rfl rfl (E.ST.callV (cap := []) rfl ent53 rfl (E.evc rfl (E.evc rfl E.evn)) ((clo53 x y hxr hyr _).mono ?_))
   rintro e w32 ⟨rfl, l32⟩
   refine ⟨_, rfl, ⟨hh.trans (E.gbB l32), ?_⟩⟩
   replace hh := hh.trans (E.gbB l32)
   replace R := Kd.R_below R l32
   replace K := below_step K l32
   refine E.GH.cmp (i := 15) rfl (by kernel_rfl) (by kernel_rfl) (by kernel_rfl) (by intro c a d v w h; first | (cases d <;> exact h) | exact nomatch (show _ ∧ _ from h).1) rfl rfl rfl (fun _ h w' hS => (E.Runs.lss rfl rfl rfl h)) (fun h33 => ?_) (fun h33 => ?_)
   ·rw [if_pos (show x.f0 < y.f0 by omega)] at hstep
    refine E.GH.take (i := 16) rfl (by kernel_rfl) (by kernel_rfl) (by kernel_rfl) (by intro c a d v w h; first | (cases d <;> exact h) | exact nomatch (show _ ∧ _ from h).1) rfl rfl rfl (fun w' hS => (E.Runs.pick_t rfl rfl rfl)) ?_
    refine E.GH.done (by kernel_rfl) ?_
    refine E.qc (E.CG.cond_t rfl (E.CG.skip (E.qc (E.cs (E.CG.block (E.CG.heldJ 15 (fun v W => v.grownBy W (none)) (fun v W => v.grownBy W (some g)) (by kernel_rfl) (by kernel_rfl) (fun v => World.grownBy.refl _ _) fun v6 lD => ?_))))))
    replace R := Kd.R_below R lD
    replace K := below_step K lD
    have lD6 := lD
    clear lD
    obtain ⟨X, t1, hs1⟩ := rep_own R hx
    obtain ⟨Y, _, _⟩ := rep_own R hy
    obtain ⟨RO1, gO1⟩ := hs1 y
    have hid3 := swp_idr hid2 (j := j - 1) (by omega)
    have hdn2 : down (swp o2 (j - 1)) (j - 1) = down o i := hstep.symm.trans hdn
    unfold swp at hid3 hdn2
    rw [show j - 1 + 1 = j by omega, getD_el hx, getD_el hy] at hid3 hdn2
    have s_K := K
    refine E.GJ.take1 (i := 0) rfl (by kernel_rfl) (by kernel_rfl) (by kernel_rfl) (by kernel_rfl) rfl (by kernel_rfl) (by kernel_rfl) (by intro c a d v w h; first | (cases d <;> exact h) | exact nomatch (show _ ∧ _ from h).1) rfl rfl rfl (fun w' hS => (E.Runs.move rfl rfl)) ?_
    refine E.GJ.take1 (i := 1) rfl (by kernel_rfl) (by kernel_rfl) (by kernel_rfl) (by kernel_rfl) rfl (by kernel_rfl) (by kernel_rfl) (by intro c a d v w h; first | (cases d <;> exact h) | exact nomatch (show _ ∧ _ from h).1) rfl rfl rfl (fun w' hS => (E.Runs.move rfl rfl)) ?_
    refine E.GJ.take2 (i := 2) rfl (by kernel_rfl) (by kernel_rfl) (by kernel_rfl) (by kernel_rfl) (by intro c a d v w h; first | (cases d <;> exact h) | exact nomatch (show _ ∧ _ from h).1) rfl rfl rfl (fun w' hS => (E.Runs.move rfl rfl)) ?_
    refine E.GJ.take2 (i := 3) rfl (by kernel_rfl) (by kernel_rfl) (by kernel_rfl) (by kernel_rfl) (by intro c a d v w h; first | (cases d <;> exact h) | exact nomatch (show _ ∧ _ from h).1) rfl rfl rfl (fun w' hS => (E.Runs.move rfl rfl)) ?_
    refine E.GJ.take2 (i := 4) rfl (by kernel_rfl) (by kernel_rfl) (by kernel_rfl) (by kernel_rfl) (by intro c a d v w h; first | (cases d <;> exact h) | exact nomatch (show _ ∧ _ from h).1) rfl rfl rfl (fun w' hS => (E.Runs.sub rfl rfl rfl ((IntWalk.i64_in _ (by omega)).trans (show _ = ((j - 1 : Nat) : Int) from by omega)))) ?_
    refine E.GJ.take1 (i := 5) rfl (by kernel_rfl) (by kernel_rfl) (by kernel_rfl) (by kernel_rfl) rfl (by kernel_rfl) (by kernel_rfl) (by intro c a d v w h; first | (cases d <;> exact h) | exact nomatch (show _ ∧ _ from h).1) rfl rfl rfl (fun w' hS => (E.Runs.move rfl rfl)) ?_
    refine E.GJ.take1 (i := 6) rfl (by kernel_rfl) (by kernel_rfl) (by kernel_rfl) (by kernel_rfl) rfl (by kernel_rfl) (by kernel_rfl) (by intro c a d v w h; first | (cases d <;> exact h) | exact nomatch (show _ ∧ _ from h).1) rfl rfl rfl (fun w' hS => (E.Runs.move rfl rfl)) ?_
    refine E.GJ.take1 (i := 7) rfl (by kernel_rfl) (by kernel_rfl) (by kernel_rfl) (by kernel_rfl) rfl (by kernel_rfl) (by kernel_rfl) (by intro c a d v w h; first | (cases d <;> exact h) | exact nomatch (show _ ∧ _ from h).1) rfl rfl rfl (fun w' hS => (E.Runs.sub rfl rfl rfl ((IntWalk.i64_in _ (by omega)).trans (show _ = ((j - 1 : Nat) : Int) from by omega)))) ?_
    refine E.GJ.take1 (i := 8) rfl (by kernel_rfl) (by kernel_rfl) (by kernel_rfl) (by kernel_rfl) rfl (by kernel_rfl) (by kernel_rfl) (by intro c a d v w h; first | (cases d <;> exact h) | exact nomatch (show _ ∧ _ from h).1) rfl rfl rfl (fun w' hS => (E.Runs.indexAddrA (i := (j - 1)) rfl rfl rfl hu27 z55 o55 (by omega) rfl (show _ = (⟨g, (j - 1) * 6, none⟩ : Addr) from by rw [Go.Addr.add_mid, Nat.zero_add]))) ?_
    refine E.GJ.take1 (i := 9) rfl (by kernel_rfl) (by kernel_rfl) (by kernel_rfl) (by kernel_rfl) rfl (by kernel_rfl) (by kernel_rfl) (by intro c a d v w h; first | (cases d <;> exact h) | exact nomatch (show _ ∧ _ from h).1) rfl rfl rfl (fun w' hS => (E.Runs.loads (cs := [.int .i64 y.f0, .int .i64 y.f1, .int .i64 y.f2, .int .i64 y.f3, .int .i64 y.f4, .int .i64 y.f5]) rfl rfl hu55 rfl info55s (fun q v hv => by rw [Go.Addr.add_mid]; exact E.keeps hS (Y q v hv) E.nen))) ?_
    refine E.GJ.take2 (i := 10) rfl (by kernel_rfl) (by kernel_rfl) (by kernel_rfl) (by kernel_rfl) (by intro c a d v w h; first | (cases d <;> exact h) | exact nomatch (show _ ∧ _ from h).1) rfl rfl rfl (fun w' hS => (E.Runs.move rfl rfl)) ?_
    refine E.GJ.take2 (i := 11) rfl (by kernel_rfl) (by kernel_rfl) (by kernel_rfl) (by kernel_rfl) (by intro c a d v w h; first | (cases d <;> exact h) | exact nomatch (show _ ∧ _ from h).1) rfl rfl rfl (fun w' hS => (E.Runs.move rfl rfl)) ?_
    refine E.GJ.take2 (i := 12) rfl (by kernel_rfl) (by kernel_rfl) (by kernel_rfl) (by kernel_rfl) (by intro c a d v w h; first | (cases d <;> exact h) | exact nomatch (show _ ∧ _ from h).1) rfl rfl rfl (fun w' hS => (E.Runs.indexAddrA (i := j) rfl rfl rfl hu27 z55 o55 (by omega) rfl (show _ = (⟨g, j * 6, none⟩ : Addr) from by rw [Go.Addr.add_mid, Nat.zero_add]))) ?_
    refine E.GJ.take1 (i := 13) rfl (by kernel_rfl) (by kernel_rfl) (by kernel_rfl) (by kernel_rfl) rfl (by kernel_rfl) (by kernel_rfl) (by intro c a d v w h; first | (cases d <;> exact h) | exact nomatch (show _ ∧ _ from h).1) rfl rfl rfl (fun w' hS => (E.Runs.loads (cs := [.int .i64 x.f0, .int .i64 x.f1, .int .i64 x.f2, .int .i64 x.f3, .int .i64 x.f4, .int .i64 x.f5]) rfl rfl hu55 rfl info55s (fun q v hv => by rw [Go.Addr.add_mid]; exact E.keeps hS (X q v hv) E.nen))) ?_
    refine E.GJ.take1 (i := 14) rfl (by kernel_rfl) (by kernel_rfl) (by kernel_rfl) (by kernel_rfl) rfl (by kernel_rfl) (by kernel_rfl) (by intro c a d v w h; first | (cases d <;> exact h) | exact nomatch (show _ ∧ _ from h).1) rfl rfl rfl (fun w' hS => (E.Runs.indexAddrA (i := j) rfl rfl rfl hu27 z55 o55 (by omega) rfl (show _ = (⟨g, j * 6, none⟩ : Addr) from by rw [Go.Addr.add_mid, Nat.zero_add]))) ?_
    refine E.GJ.one (i := 15) (by kernel_rfl) (E.OJ.sn rfl rfl rfl (E.ST.storeMid (g := g) (off := j * 6) (cells := rC y) rfl rfl rfl t1 info55s (rep_one y) ⟨(E.SJ.behind (by kernel_rfl)).mpr gO1, ?_⟩))
    replace K := E.below_own K hg gO1
    obtain ⟨_, t2, hs2⟩ := rep_own RO1 (i := j - 1) (x := y) (by rw [List.getElem?_set_ne (by omega)]; exact hy)
    obtain ⟨RO2, gO2⟩ := hs2 x
    refine E.GJ.one (i := 16) (by kernel_rfl) (E.OJ.st rfl rfl rfl rfl (E.ST.reads (E.Runs.indexAddrA (i := (j - 1)) rfl rfl rfl hu27 z55 o55 (by omega) rfl (show _ = (⟨g, (j - 1) * 6, none⟩ : Addr) from by rw [Go.Addr.add_mid, Nat.zero_add])) ⟨(E.SJ.behind (by kernel_rfl)).mpr gO1, ?_⟩))
    refine E.GJ.one (i := 17) (by kernel_rfl) (E.OJ.sn rfl rfl rfl (E.ST.storeMid (g := g) (off := (j - 1) * 6) (cells := rC x) rfl rfl rfl t2 info55s (rep_one x) ⟨(E.SJ.behind (by kernel_rfl)).mpr (gO1.trans gO2), ?_⟩))
    replace K := E.below_own K hg gO2
    refine E.GJ.done (by kernel_rfl) ?_
    refine E.QG.block_normal (E.qc (E.cl (E.gm rfl rfl rfl (E.gr rfl (E.Runs.sub rfl rfl rfl ((IntWalk.i64_in _ (by omega)).trans (show _ = ((j - 1 : Nat) : Int) from by omega))) ?_))))
    refine E.ga rfl rfl rfl (E.gd ?_)
    exact E.QG.round2 (d := []) (j - 1) _ (E.subc rfl (E.subc rfl (E.subc rfl (E.subc rfl (E.subc rfl (E.subc rfl E.subn)))))) ⟨by omega, hdn2, by rw [List.length_set, List.length_set]; exact hlo2, hid3, RO2, K⟩ (by omega)
   ·rw [if_neg (show ¬ x.f0 < y.f0 by omega)] at hstep
    have hT : o2 = down o i := hstep.symm.trans hdn
    refine E.GH.take (i := 16) rfl (by kernel_rfl) (by kernel_rfl) (by kernel_rfl) (by intro c a d v w h; first | (cases d <;> exact h) | exact nomatch (show _ ∧ _ from h).1) rfl rfl rfl (fun w' hS => (E.Runs.pick_t rfl rfl rfl)) ?_
    refine E.GH.done (by kernel_rfl) ?_
    refine E.qc (E.CG.cond_f rfl (E.CG.exit (E.QG.pass_exit (E.QG.pass_exit (E.QG.block_here (E.QG.block_normal (E.qc (E.cl (E.gm rfl rfl rfl ?_)))))))))
    refine E.gr rfl (E.Runs.add rfl rfl rfl (IntWalk.i64_in _ (by omega))) ?_
    refine E.ga rfl rfl rfl (E.gd ?_)
    exact E.QG.round2 (d := []) (i + 1) _ (E.subc rfl (E.subc rfl (E.subc rfl (E.subc rfl (E.subc rfl E.subn))))) ⟨by omega, .inl (by omega), (by rw [hT, ho, show i + 1 - 1 = (i - 1) + 1 by omega]; show _ = down (insT l (i - 1)) (i - 1 + 1); rw [show i - 1 + 1 = i by omega]), hlo2, hid2, R, K⟩ (by omega)
  ·have hj0 : j = 0 := by omega
   subst hj0
   have hT : o2 = down o i := hdn
   refine E.GH.take (i := 3) rfl (by kernel_rfl) (by kernel_rfl) (by kernel_rfl) (by intro c a d v w h; first | (cases d <;> exact h) | exact nomatch (show _ ∧ _ from h).1) rfl rfl rfl (fun w' hS => (E.Runs.move rfl rfl)) ?_
   refine E.GH.pass (i := 4) rfl (by kernel_rfl) (by kernel_rfl) (by kernel_rfl) (by intro c a d v w h; first | (cases d <;> exact h) | exact nomatch (show _ ∧ _ from h).1) rfl rfl rfl ?_
   refine E.GH.pass (i := 5) rfl (by kernel_rfl) (by kernel_rfl) (by kernel_rfl) (by intro c a d v w h; first | (cases d <;> exact h) | exact nomatch (show _ ∧ _ from h).1) rfl rfl rfl ?_
   refine E.GH.pass (i := 6) rfl (by kernel_rfl) (by kernel_rfl) (by kernel_rfl) (by intro c a d v w h; first | (cases d <;> exact h) | exact nomatch (show _ ∧ _ from h).1) rfl rfl rfl ?_
   refine E.GH.pass (i := 7) rfl (by kernel_rfl) (by kernel_rfl) (by kernel_rfl) (by intro c a d v w h; first | (cases d <;> exact h) | exact nomatch (show _ ∧ _ from h).1) rfl rfl rfl ?_
   refine E.GH.pass (i := 8) rfl (by kernel_rfl) (by kernel_rfl) (by kernel_rfl) (by intro c a d v w h; first | (cases d <;> exact h) | exact nomatch (show _ ∧ _ from h).1) rfl rfl rfl ?_
   refine E.GH.pass (i := 9) rfl (by kernel_rfl) (by kernel_rfl) (by kernel_rfl) (by intro c a d v w h; first | (cases d <;> exact h) | exact nomatch (show _ ∧ _ from h).1) rfl rfl rfl ?_
   refine E.GH.pass (i := 10) rfl (by kernel_rfl) (by kernel_rfl) (by kernel_rfl) (by intro c a d v w h; first | (cases d <;> exact h) | exact nomatch (show _ ∧ _ from h).1) rfl rfl rfl ?_
   refine E.GH.pass (i := 11) rfl (by kernel_rfl) (by kernel_rfl) (by kernel_rfl) (by intro c a d v w h; first | (cases d <;> exact h) | exact nomatch (show _ ∧ _ from h).1) rfl rfl rfl ?_
   refine E.GH.pass (i := 12) rfl (by kernel_rfl) (by kernel_rfl) (by kernel_rfl) (by intro c a d v w h; first | (cases d <;> exact h) | exact nomatch (show _ ∧ _ from h).1) rfl rfl rfl ?_
   refine E.GH.pass (i := 13) rfl (by kernel_rfl) (by kernel_rfl) (by kernel_rfl) (by intro c a d v w h; first | (cases d <;> exact h) | exact nomatch (show _ ∧ _ from h).1) rfl rfl rfl ?_
   refine E.GH.pass (i := 14) rfl (by kernel_rfl) (by kernel_rfl) (by kernel_rfl) (by intro c a d v w h; first | (cases d <;> exact h) | exact nomatch (show _ ∧ _ from h).1) rfl rfl rfl ?_
   refine E.GH.pass (i := 15) rfl (by kernel_rfl) (by kernel_rfl) (by kernel_rfl) (by intro c a d v w h; first | (cases d <;> exact h) | exact nomatch (show _ ∧ _ from h).1) rfl rfl rfl ?_
   refine E.GH.take (i := 16) rfl (by kernel_rfl) (by kernel_rfl) (by kernel_rfl) (by intro c a d v w h; first | (cases d <;> exact h) | exact nomatch (show _ ∧ _ from h).1) rfl rfl rfl (fun w' hS => (E.Runs.pick_f rfl rfl rfl)) ?_
   refine E.GH.done (by kernel_rfl) ?_
   refine E.qc (E.CG.cond_f rfl (E.CG.exit (E.QG.pass_exit (E.QG.pass_exit (E.QG.block_here (E.QG.block_normal (E.qc (E.cl (E.gm rfl rfl rfl ?_)))))))))
   refine E.gr rfl (E.Runs.add rfl rfl rfl (IntWalk.i64_in _ (by omega))) ?_
   refine E.ga rfl rfl rfl (E.gd ?_)
   exact E.QG.round2 (d := []) (i + 1) _ (E.subc rfl (E.subc rfl (E.subc rfl (E.subc rfl (E.subc rfl E.subn))))) ⟨by omega, .inl (by omega), (by rw [hT, ho, show i + 1 - 1 = (i - 1) + 1 by omega]; show _ = down (insT l (i - 1)) (i - 1 + 1); rw [show i - 1 + 1 = i by omega]), hlo2, hid2, R, K⟩ (by omega)
 ·refine E.gd (E.qc (E.CG.cond_f rfl (E.CG.exit (E.QG.pass_exit (E.QG.pass_exit (E.QG.block_here ?_))))))
  have hsrt : o = srt l := by
   unfold srt
   rw [ho, show i - 1 = l.length - 1 by omega]
  exact E.QG.result_n0 rfl ⟨rfl, hsrt ▸ R, K⟩

set_option maxRecDepth 100000 in
set_option maxHeartbeats 8000000 in

theorem stable69 (w0 : World) (g n c : Nat) (l : List S55) (w : World) (hg : w0.heap.size ≤ g) (K : Below w0.heap.size w0 w) (R : Kd.R k55 55 w w0.heap.size (fun _ => True) (.slice (some ⟨g, 0, none⟩) n c) l) (hl : Idr l) (hn : n = l.length) (hm : n ≤ 19) :
  Calls Try.prog 69 #[.slice (some ⟨g, 0, none⟩) n c, .int .i64 n, .func (.func 53) #[] #[]] w fun e w' => e = .returned (.tuple #[]) ∧ Kd.R k55 55 w' w0.heap.size (fun _ => True) (.slice (some ⟨g, 0, none⟩) n c) (srt l) ∧ Below w0.heap.size w0 w' := by
 have hu3 := Try.underlying3
 have hu27 := Try.underlying27
 refine E.enter (N := 63) Try.func69 rfl Try.ntmps69 (args := [.slice (some ⟨g, 0, none⟩) n c, .int .i64 n, .func (.func 53) #[] #[]]) (by simp) ?_
 
 refine E.cs (E.cl (E.ga rfl rfl rfl (E.gd (E.qc (E.cs (E.cl (E.gm rfl rfl rfl (E.ga rfl rfl rfl (E.ga rfl rfl rfl ?_)))))))))
 refine E.gd (E.qc (E.cs (E.CG.block (E.CG.loop (fun (u : Unit) => [(0, .slice (some ⟨g, 0, none⟩) n c), (1, .int .i64 n), (2, .func (.func 53) #[] #[]), (6, .int .i64 20), (7, .int .i64 0), (8, .int .i64 20)]) (fun u w' => w' = w) (fun u => 0) () (E.subc rfl (E.subc rfl (E.subc rfl (E.subc rfl (E.subc rfl (E.subc rfl E.subn)))))) rfl ?_))))
 rintro u w2 rfl
 refine E.cs (E.cs (E.cl (E.gm rfl rfl rfl (E.gm rfl rfl rfl (E.gr rfl (E.Runs.leq rfl rfl rfl (decide_eq_false (by omega))) ?_)))))
 refine E.gd (E.qc (E.CG.cond_f rfl (E.CG.exit (E.QG.pass_exit (E.QG.pass_exit (E.QG.block_here (E.qc (E.cs (E.cl ?_)))))))))
 refine E.gm rfl rfl rfl (E.gm rfl rfl rfl (E.gm rfl rfl rfl (E.gm rfl rfl rfl ?_)))
 refine E.GL.st rfl rfl rfl (E.ST.call rfl ent77 (E.evc rfl (E.evc rfl (E.evc rfl (E.evc rfl E.evn)))) ((sort77 w0 g n c l _ hg K R hl hn (by omega)).mono ?_))
 rintro e w27 ⟨rfl, R, K⟩
 refine ⟨_, rfl, ?_⟩
 refine E.gd (E.qc (E.CG.block (E.CG.loop (fun (u : Unit) => [(1, .int .i64 n), (6, .int .i64 20)]) (fun u w' => Kd.R k55 55 w' w0.heap.size (fun _ => True) (.slice (some ⟨g, 0, none⟩) n c) (srt l) ∧ Below w0.heap.size w0 w') (fun u => 0) () (E.subc rfl (E.subc rfl E.subn)) ⟨R, K⟩ ?_)))
 rintro u w7 ⟨R, K⟩
 refine E.cs (E.cs (E.cl (E.gm rfl rfl rfl (E.gm rfl rfl rfl (E.gr rfl (E.Runs.lss rfl rfl rfl (decide_eq_false (by omega))) ?_)))))
 refine E.gd (E.qc (E.CG.cond_f rfl (E.CG.exit (E.QG.pass_exit (E.QG.pass_exit (E.QG.block_here ?_))))))
 exact E.QG.result_n0 rfl ⟨rfl, R, K⟩

set_option maxRecDepth 100000 in
set_option maxHeartbeats 8000000 in

theorem stable52 (w0 : World) (g n c : Nat) (l : List S55) (w : World) (hg : w0.heap.size ≤ g) (K : Below w0.heap.size w0 w) (R : Kd.R k55 55 w w0.heap.size (fun _ => True) (.slice (some ⟨g, 0, none⟩) n c) l) (hl : Idr l) (hn : n = l.length) (hm : n ≤ 19) :
  Calls Try.prog 52 #[.slice (some ⟨g, 0, none⟩) n c, .func (.func 53) #[] #[]] w fun e w' => e = .returned (.tuple #[]) ∧ Kd.R k55 55 w' w0.heap.size (fun _ => True) (.slice (some ⟨g, 0, none⟩) n c) (srt l) ∧ Below w0.heap.size w0 w' := by
 have hu3 := Try.underlying3
 have hu27 := Try.underlying27
 refine E.enter (N := 9) Try.func52 rfl Try.ntmps52 (args := [.slice (some ⟨g, 0, none⟩) n c, .func (.func 53) #[] #[]]) (by simp) ?_
 
 refine E.cl (E.gm rfl rfl rfl (E.gm rfl rfl rfl (E.gr rfl (E.Runs.len rfl rfl hu27) ?_)))
 refine E.gm rfl rfl rfl ?_
 refine E.GL.st rfl rfl rfl (E.ST.call rfl ent69 (E.evc rfl (E.evc rfl (E.evc rfl E.evn))) ((stable69 w0 g n c l _ hg K R hl hn hm).mono ?_))
 rintro e w8 ⟨rfl, R, K⟩
 refine ⟨_, rfl, ?_⟩
 refine E.gd ?_
 exact E.QG.result_n0 rfl ⟨rfl, R, K⟩

end Go.Proofs.Ytkjefnlhhfpllaa.T
namespace Go.Proofs.Ytkjefnlhhfpllaa.E
open Go.RowKit Go.Proofs.YtkjefnlhhfpllaaW.PrintWords Go.Proofs.YtkjefnlhhfpllaaW.PrintMore
open Go.Proofs.Ytkjefnlhhfpllaa.T
set_option linter.unusedVariables false
section
variable {P : Program} {Q : Exit → Act → World → Prop} {N : Nat} {w : World} {env : Env} {o : Oper}
theorem zero_run {e : TypeId} {z : Value} (hz : (P.info? e).map (·.zero) = some (some z)) (W : World) : (zeroValue e).run P W = .ok z W := by
 cases hq : P.info? e with
 | none => simp [hq] at hz
 | some i =>
  have hi : i.zero = some z := by simpa [hq] using hz
  simp [go_sem, zeroValue, typeInfo, hq, hi]
theorem setCells_own {b : Nat} : ∀ (vs : List Value) (off : Nat) (W : World), W.grownBy (W.setCells b off vs) (some b)
 | [], _, W => World.grownBy.refl _ _
 | v :: r, off, W => (gb_set (World.grownBy.refl _ _) (.inr rfl) v).trans (setCells_own r (off + 1) _)
theorem setCells_type {b t : Nat} : ∀ (vs : List Value) (off : Nat) (W : World) (cs : Array Value), W.heap[b]? = some (.cells cs t (0, 0)) → ∃ cs', (W.setCells b off vs).heap[b]? = some (.cells cs' t (0, 0))
 | [], _, W, cs, h => ⟨cs, h⟩
 | v :: r, off, W, cs, h => setCells_type r (off + 1) _ _ (blk_set h off v)
theorem ST.boxX {t : TypeId} {x : Operand} {cs : Array Value} {K : Value → World → Prop} (ho : o.op = .box t x) (hx : Ev env x (.agg cs))
  (h : K (.pointer (some ⟨w.heap.size, 0, none⟩)) (w.alloc (.cells cs t (0, 0)))) : ST P Q N env w o K := by
 refine ST.ev (v := .pointer (some ⟨w.heap.size, 0, none⟩)) (w1 := w.alloc (.cells cs t (0, 0))) (fun a ha => ?_) h
 unfold execOp; rw [ho]; simp only []; rw [ha.eval hx]
 simp [go_sem]
theorem ST.clear {x : Operand} {t e : TypeId} {z : Array Value} {g off n c : Nat} {K : Value → World → Prop} (ho : o.op = .call { callee := .builtin .clear, args := #[x], argTypes := #[t] }) (hx : Ev env x (.slice (some ⟨g, off, none⟩) n c)) (ht : P.underlying t = some (.slice e))
  (hz : (P.info? e).map (·.zero) = some (some (.agg z))) (h1 : ∀ v ∈ z.toList, v.oneCell' = true) (hn : 0 < n) (hc : w.there g off (n * z.size))
  (h : ∀ w1, w.grownBy w1 (some g) → (∀ i, i < off → w1.cell? ⟨g, i, none⟩ = w.cell? ⟨g, i, none⟩) → (∀ (t' : Nat) cs, w.heap[g]? = some (.cells cs t' (0, 0)) → ∃ cs', w1.heap[g]? = some (.cells cs' t' (0, 0))) → K (.tuple #[]) w1) : ST P Q N env w o K := by
 have hlen : (Builtin.zeroCells z n).toList.length = n * z.size := by simp [Builtin.zeroCells]
 have hin : ∀ v ∈ (Builtin.zeroCells z n).toList, v.oneCell' = true := by
  intro v hv
  by_cases hs : z.size = 0
  ·have : (Builtin.zeroCells z n).toList = [] := List.length_eq_zero_iff.mp (by rw [hlen, hs, Nat.mul_zero])
   rw [this] at hv
   cases hv
  ·obtain ⟨j, hj, rfl⟩ := List.mem_iff_getElem.mp hv
   simp only [Builtin.zeroCells, Array.getElem_toList, Array.getElem_ofFn]
   refine h1 _ ?_
   have hm : j % z.size < z.size := Nat.mod_lt _ (by omega)
   simp [hm]
 have hst := run_storeCells_cells (P := P) g off (Builtin.zeroCells z n).toList 0 w (fun j hj => by rw [Nat.add_zero]; exact (hc j (by rw [← hlen]; exact hj)).1) (fun j hj => by rw [Nat.add_zero]; exact (hc j (by rw [← hlen]; exact hj)).2) hin
 rw [Nat.add_zero] at hst
 refine ST.ev (v := .tuple #[]) (w1 := w.setCells g off (Builtin.zeroCells z n).toList) (fun a ha => ?_) (h _ (setCells_own _ _ _) (fun i hi => World.cell?_setCells_out g _ _ _ _ (fun _ _ => .inl hi)) (fun t' cs hcs => setCells_type _ _ _ cs hcs))
 have e1 := ha.eval hx
 have hzr := fun W => zero_run (P := P) hz W
 obtain ⟨m, rfl⟩ : ∃ m, n = m + 1 := ⟨n - 1, by omega⟩
 generalize a.eval = ρ at e1 ⊢
 unfold execOp; rw [ho]
 simp [resolve, invoke, builtin, e1, Builtin.clear_, run_underlying ht, hzr, hst, Result.andThen, Value.cells]
end
end Go.Proofs.Ytkjefnlhhfpllaa.E
namespace Go.Proofs.Ytkjefnlhhfpllaa.T
open Go.RowKit Go.Proofs.YtkjefnlhhfpllaaW.PrintWords Go.Proofs.YtkjefnlhhfpllaaW.PrintMore
open Go.Proofs.Ytkjefnlhhfpllaa.P
set_option linter.unusedVariables false
set_option linter.unusedSimpArgs false

theorem own_type {α : Type} {d : Kd α} {e base g n c : Nat} {w : World} {xs : List α} (h : Kd.R d e w base (fun _ => True) (.slice (some ⟨g, 0, none⟩) n c) xs) : ∃ cs, w.heap[g]? = some (.cells cs e (0, 0)) := by
 obtain ⟨_, inner, ho, _⟩ := h
 exact own_typed ho g rfl
theorem C_front {α : Type} {d : Kd α} {w w1 : World} {g n k : Nat} {xs : List α} (h : Kd.C d w (some ⟨g, 0, none⟩) n xs) (hk : k ≤ xs.length) (fl : ∀ x cs, d.K w x cs → d.K w1 x cs) (hc : ∀ i, i < k * d.sz → w1.cell? ⟨g, i, none⟩ = w.cell? ⟨g, i, none⟩) : Kd.C d w1 (some ⟨g, 0, none⟩) k (xs.take k) := by
 obtain ⟨h1, h2, h3⟩ := h
 refine ⟨by rw [List.length_take]; omega, by omega, fun hn => ?_⟩
 obtain ⟨ad, e, hr⟩ := h3 (by omega)
 injection e with e
 subst e
 refine ⟨_, rfl, fun j x hx => ?_⟩
 have hj := get_lt hx
 rw [List.length_take] at hj
 rw [List.getElem?_take, if_pos (by omega)] at hx
 obtain ⟨cs, q1, q2, q3⟩ := hr j x hx
 refine ⟨cs, q1, fl _ _ q2, fun i u hu => ?_⟩
 have hi := get_lt hu
 have := q3 i u hu
 rw [Addr.add_mid, Nat.zero_add] at this ⊢
 rw [hc _ (by
  have : (j + 1) * d.sz ≤ k * d.sz := Nat.mul_le_mul_right _ (by omega)
  rw [Nat.add_mul, Nat.one_mul] at this
  omega), this]
theorem row_there {w : World} {g n k sz : Nat} (hk : k ≤ n) (h : ∀ i, i < n → w.there g (i * sz) sz) : w.there g (k * sz) ((n - k) * sz) := fun j hj => by
 have hs : 0 < sz := Nat.pos_of_ne_zero fun e => by rw [e, Nat.mul_zero] at hj; omega
 have hd : j / sz < n - k := (Nat.div_lt_iff_lt_mul hs).mpr hj
 have := h (k + j / sz) (by omega) (j % sz) (Nat.mod_lt _ hs)
 have e : (k + j / sz) * sz + j % sz = k * sz + j := by
  rw [Nat.add_mul, Nat.add_assoc, Nat.div_add_mod']
 rw [e] at this
 exact this
theorem set_take {α : Type} {l : List α} {k : Nat} {x : α} (h : k < l.length) : (l.set k x).take (k + 1) = l.take k ++ [x] := by
 rw [List.take_add_one, List.getElem?_set_self h, List.take_set_of_le (Nat.le_refl _)]
 rfl
set_option maxRecDepth 100000 in
set_option maxHeartbeats 8000000 in

theorem compact54 (w0 : World) (g n c : Nat) (l : List S55) (w : World) (hg : w0.heap.size ≤ g) (K : Below w0.heap.size w0 w) (R : Kd.R k55 55 w w0.heap.size (fun _ => True) (.slice (some ⟨g, 0, none⟩) n c) l) (hn : l.length = n) (hm : n ≤ 1000000) :
  Calls Try.prog 54 #[.slice (some ⟨g, 0, none⟩) n c] w fun e w' => ∃ c', e = .returned (.slice (some ⟨g, 0, none⟩) (cpt l).length c') ∧ Kd.C k55 w' (some ⟨g, 0, none⟩) (cpt l).length (cpt l) ∧ (∃ cs, w'.heap[g]? = some (.cells cs 55 (0, 0))) ∧ Below w0.heap.size w0 w' := by
 have hu3 := Try.underlying3
 have hu27 := Try.underlying27
 have hu55 := Try.underlying55
 obtain ⟨z3, o3⟩ := info_some info3s (by decide)
 obtain ⟨z27, o27⟩ := info_some info27s (by decide)
 obtain ⟨z55, o55⟩ := info_some info55s (by decide)
 refine E.enter (N := 61) Try.func54 rfl Try.ntmps54 (args := [.slice (some ⟨g, 0, none⟩) n c]) (by simp) ?_
 
 refine E.cs (E.cl (E.ga rfl rfl rfl (E.gd (E.qc (E.cs (E.cs (E.cl (E.gm rfl rfl rfl (E.gr rfl (E.Runs.len rfl rfl hu27) ?_)))))))))
 have hnc := (Kd.R_reads' R).2.1
 refine E.GL.cmp rfl rfl rfl (fun _ h => (E.Runs.lss rfl rfl rfl h)) (fun h8 => ?_) (fun h8 => ?_)
 ·refine E.gd (E.qc (E.CG.cond_t rfl (E.cs (E.cl (E.gm rfl rfl rfl (E.ga rfl rfl rfl (E.gd (E.qc (E.CG.ret ?_)))))))))
  refine E.QG.pass_ret ?_
  have hall : cpt l = l := by
   have := cpt_same (l := l) (i := n) (by omega) (fun j x y hj => by omega)
   rw [List.take_of_length_le (by omega)] at this
   exact this
  exact E.QG.result rfl (by rw [hall, hn]; rfl) ⟨c, rfl, by rw [hall]; exact (Kd.R_reads' R).2.2, own_type R, K⟩
 ·refine E.gd (E.qc (E.CG.cond_f rfl (E.CG.skip (E.qc (E.cs (E.cs (E.cl (E.ga rfl rfl rfl (E.gd ?_)))))))))
  refine E.qc (E.CG.block (E.CG.loop (fun (i : Nat) => [(0, .slice (some ⟨g, 0, none⟩) n c), (3, .int .i64 i)]) (fun i w' => 1 ≤ i ∧ i ≤ n ∧ (∀ (j : Nat) (x y : S55), j + 1 < i → l[j]? = some x → l[j + 1]? = some y → y ≠ x) ∧ Kd.R k55 55 w' w0.heap.size (fun _ => True) (.slice (some ⟨g, 0, none⟩) n c) l ∧ Below w0.heap.size w0 w') (fun i => n - i) 1 (E.subc rfl (E.subc rfl E.subn)) ⟨Nat.le_refl _, by omega, fun j x y hj => by omega, R, K⟩ ?_))
  rintro i w4 ⟨hi1, hi2, hne, R, K⟩
  refine E.cs (E.cs (E.cl (E.gm rfl rfl rfl (E.gm rfl rfl rfl (E.gr rfl (E.Runs.len rfl rfl hu27) ?_)))))
  refine E.GL.cmp rfl rfl rfl (fun _ h => (E.Runs.lss rfl rfl rfl h)) (fun h13 => ?_) (fun h13 => ?_)
  ·obtain ⟨x, hx⟩ := get_ex (show i < l.length by omega)
   obtain ⟨y, hy⟩ := get_ex (show i - 1 < l.length by omega)
   obtain ⟨X, _, _⟩ := rep_own R hx
   obtain ⟨Y, _, _⟩ := rep_own R hy
   refine E.gd (E.qc (E.CG.cond_t rfl (E.CG.skip (E.qc (E.cs (E.CG.block (E.cs (E.CG.quietF (by kernel_rfl) rfl (by kernel_rfl) (by kernel_rfl) ?_))))))))
   refine E.GQ.run rfl rfl rfl (E.Runs.move rfl rfl) ?_
   refine E.GQ.run rfl rfl rfl (E.Runs.move rfl rfl) ?_
   refine E.GQ.run rfl rfl rfl (E.Runs.indexAddrA (i := i) rfl rfl rfl hu27 z55 o55 (by omega) rfl (show _ = (⟨g, i * 6, none⟩ : Addr) from by rw [Go.Addr.add_mid, Nat.zero_add])) ?_
   refine E.GQ.run rfl rfl rfl (E.Runs.loads (cs := [.int .i64 x.f0, .int .i64 x.f1, .int .i64 x.f2, .int .i64 x.f3, .int .i64 x.f4, .int .i64 x.f5]) rfl rfl hu55 rfl info55s (fun j v hv => by rw [Go.Addr.add_mid]; exact X j v hv)) ?_
   refine E.GQ.run rfl rfl rfl (E.Runs.move rfl rfl) ?_
   refine E.GQ.run rfl rfl rfl (E.Runs.move rfl rfl) ?_
   refine E.GQ.run rfl rfl rfl (E.Runs.sub rfl rfl rfl ((IntWalk.i64_in _ (by omega)).trans (show _ = ((i - 1 : Nat) : Int) from by omega))) ?_
   refine E.GQ.run rfl rfl rfl (E.Runs.indexAddrA (i := (i - 1)) rfl rfl rfl hu27 z55 o55 (by omega) rfl (show _ = (⟨g, (i - 1) * 6, none⟩ : Addr) from by rw [Go.Addr.add_mid, Nat.zero_add])) ?_
   refine E.GQ.run rfl rfl rfl (E.Runs.loads (cs := [.int .i64 y.f0, .int .i64 y.f1, .int .i64 y.f2, .int .i64 y.f3, .int .i64 y.f4, .int .i64 y.f5]) rfl rfl hu55 rfl info55s (fun j v hv => by rw [Go.Addr.add_mid]; exact Y j v hv)) ?_
   by_cases hxy25 : x = y
   ·refine E.GQ.run rfl rfl rfl (E.Runs.eqlv rfl rfl rfl rfl (fun _ _ W => run_eqGuard_agg W _ _ _ _ _ _ Try.eqGuardType55) (fun W => (equal55 x y W).trans (by rw [decide_eq_true hxy25]))) ?_
    refine E.GQ.doneB fun v6 lD => ?_
    replace R := Kd.R_below R lD
    replace K := below_step K lD
    have lD6 := lD
    clear lD
    refine E.qc (E.CG.cond_t rfl (E.cs ?_))
    have hst : l.take i = cpt (l.take (i + 1)) := by
     rw [take_one hx, cpt_snoc (p := i - 1) (x := y) (by rw [List.length_take]; omega) (by rw [List.getElem?_take, if_pos (by omega)]; exact hy), if_pos hxy25, cpt_same (by omega) hne]
    refine E.cl (E.gm rfl rfl rfl (E.gm rfl rfl rfl (E.gr rfl (E.Runs.sliceFrom (i := i) rfl rfl rfl hu27 z55 o55 (by omega) hnc (by rw [if_neg (by omega), Option.map_some, Go.Addr.add_mid, Nat.zero_add])) ?_)))
    refine E.ga rfl rfl rfl (E.gd (E.qc (E.cs (E.cs (E.cl (E.ga rfl rfl rfl (E.gd (E.qc (E.CG.block ?_)))))))))
    have s9_K := K
    refine E.CG.loop2 (fun (q : Nat × Nat) (o : List S55) => [(0, .slice (some ⟨g, 0, none⟩) n c), (3, .int .i64 (q.1 : Int)), (4, .slice (some ⟨g, i * 6, none⟩) (n - i) (c - i)), (5, .int .i64 (q.2 : Int))]) (fun q o w' => (1 ≤ q.2 ∧ q.2 ≤ n - i ∧ i ≤ q.1 ∧ q.1 + 1 ≤ i + q.2) ∧ o.length = n ∧ o.take q.1 = cpt (l.take (i + q.2)) ∧ (∀ j, i + q.2 ≤ j + 1 → o[j]? = l[j]?) ∧ Kd.R k55 55 w' w0.heap.size (fun _ => True) (.slice (some ⟨g, 0, none⟩) n c) o ∧ Below w0.heap.size w0 w') (fun q o => n - q.2) (i, 1) l (E.subc rfl (E.subc rfl (E.subc rfl (E.subc rfl E.subn)))) ⟨⟨Nat.le_refl _, by omega, Nat.le_refl _, Nat.le_refl _⟩, hn, hst, (fun j hj => rfl), R, K⟩ ?_
    rintro q o w9 ⟨⟨hq1, hq2, hq3, hq4⟩, hlo, htk, hsm, R, K⟩
    refine E.cs (E.cs (E.cl (E.gm rfl rfl rfl (E.gm rfl rfl rfl (E.gr rfl (E.Runs.len rfl rfl hu27) ?_)))))
    refine E.GL.cmp rfl rfl rfl (fun _ h => (E.Runs.lss rfl rfl rfl h)) (fun h32 => ?_) (fun h32 => ?_)
    ·obtain ⟨x, hx⟩ := get_ex (show i + q.2 < o.length by omega)
     obtain ⟨y, hy⟩ := get_ex (show i + q.2 - 1 < o.length by omega)
     obtain ⟨X, _, _⟩ := rep_own R hx
     obtain ⟨Y, _, _⟩ := rep_own R hy
     have hlx : l[i + q.2]? = some x := (hsm _ (by omega)).symm.trans hx
     have hly : l[i + q.2 - 1]? = some y := (hsm _ (by omega)).symm.trans hy
     have hsn := cpt_snoc (l := l.take (i + q.2)) (a := x) (x := y) (p := i + q.2 - 1) (by rw [List.length_take]; omega) (by rw [List.getElem?_take, if_pos (by omega)]; exact hly)
     rw [← take_one hlx] at hsn
     refine E.gd (E.qc (E.CG.cond_t rfl (E.CG.skip (E.qc (E.cs (E.CG.block (E.cs (E.CG.quietF (by kernel_rfl) rfl (by kernel_rfl) (by kernel_rfl) ?_))))))))
     refine E.GQ.run rfl rfl rfl (E.Runs.move rfl rfl) ?_
     refine E.GQ.run rfl rfl rfl (E.Runs.move rfl rfl) ?_
     refine E.GQ.run rfl rfl rfl (E.Runs.indexAddrA (i := q.2) rfl rfl rfl hu27 z55 o55 (by omega) rfl (show _ = (⟨g, (i + q.2) * 6, none⟩ : Addr) from by rw [Go.Addr.add_mid, ← Nat.add_mul])) ?_
     refine E.GQ.run rfl rfl rfl (E.Runs.loads (cs := [.int .i64 x.f0, .int .i64 x.f1, .int .i64 x.f2, .int .i64 x.f3, .int .i64 x.f4, .int .i64 x.f5]) rfl rfl hu55 rfl info55s (fun j v hv => by rw [Go.Addr.add_mid]; exact X j v hv)) ?_
     refine E.GQ.run rfl rfl rfl (E.Runs.move rfl rfl) ?_
     refine E.GQ.run rfl rfl rfl (E.Runs.move rfl rfl) ?_
     refine E.GQ.run rfl rfl rfl (E.Runs.sub rfl rfl rfl ((IntWalk.i64_in _ (by omega)).trans (show _ = ((q.2 - 1 : Nat) : Int) from by omega))) ?_
     refine E.GQ.run rfl rfl rfl (E.Runs.indexAddrA (i := (q.2 - 1)) rfl rfl rfl hu27 z55 o55 (by omega) rfl (show _ = (⟨g, (i + q.2 - 1) * 6, none⟩ : Addr) from by rw [Go.Addr.add_mid, ← Nat.add_mul, show i + (q.2 - 1) = i + q.2 - 1 by omega])) ?_
     refine E.GQ.run rfl rfl rfl (E.Runs.loads (cs := [.int .i64 y.f0, .int .i64 y.f1, .int .i64 y.f2, .int .i64 y.f3, .int .i64 y.f4, .int .i64 y.f5]) rfl rfl hu55 rfl info55s (fun j v hv => by rw [Go.Addr.add_mid]; exact Y j v hv)) ?_
     by_cases hxy44 : x = y
     ·rw [if_pos hxy44] at hsn
      have htk2 : o.take q.1 = cpt (l.take (i + (q.2 + 1))) := htk.trans hsn.symm
      refine E.GQ.run rfl rfl rfl (E.Runs.neqv rfl rfl rfl rfl (fun _ _ W => run_eqGuard_agg W _ _ _ _ _ _ Try.eqGuardType55) (fun W => (equal55 x y W).trans (by rw [decide_eq_true hxy44])) rfl) ?_
      refine E.GQ.doneB fun v11 lD => ?_
      replace R := Kd.R_below R lD
      replace K := below_step K lD
      have lD11 := lD
      clear lD
      refine E.qc (E.CG.cond_f rfl (E.CG.skip (E.QG.block_normal (E.qc (E.cl (E.gm rfl rfl rfl (E.gr rfl (E.Runs.add rfl rfl rfl (IntWalk.i64_in _ (by omega))) ?_)))))))
      refine E.ga rfl rfl rfl (E.gd ?_)
      exact E.QG.round2 (d := []) (q.1, q.2 + 1) o (E.subc rfl (E.subc rfl (E.subc rfl (E.subc rfl E.subn)))) (by first | exact ⟨⟨by dsimp only; omega, by dsimp only; omega, by dsimp only; omega, by dsimp only; omega⟩, by rw [List.length_set]; exact hlo, htk2, hsm2, R2, K⟩ | exact ⟨⟨by dsimp only; omega, by dsimp only; omega, by dsimp only; omega, by dsimp only; omega⟩, hlo, htk2, (fun j hj => hsm j (by dsimp only at hj; omega)), R, K⟩ | fail) (by omega)
     ·refine E.GQ.run rfl rfl rfl (E.Runs.neqv rfl rfl rfl rfl (fun _ _ W => run_eqGuard_agg W _ _ _ _ _ _ Try.eqGuardType55) (fun W => (equal55 x y W).trans (by rw [decide_eq_false hxy44])) rfl) ?_
      refine E.GQ.doneB fun v11 lD => ?_
      replace R := Kd.R_below R lD
      replace K := below_step K lD
      have lD11 := lD
      clear lD
      refine E.qc (E.CG.cond_t rfl (E.cs ?_))
      rw [if_neg hxy44] at hsn
      have htk2 : (o.set q.1 x).take (q.1 + 1) = cpt (l.take (i + (q.2 + 1))) := by
       rw [set_take (by omega), htk]
       exact hsn.symm
      have hsm2 : ∀ j, i + (q.2 + 1) ≤ j + 1 → (o.set q.1 x)[j]? = l[j]? := fun j hj => by
       rw [List.getElem?_set_ne (by omega)]
       exact hsm j (by omega)
      obtain ⟨X, _, _⟩ := rep_own R hx
      obtain ⟨y1, hy1⟩ := get_ex (show q.1 < o.length by omega)
      obtain ⟨_, t1, hs1⟩ := rep_own R hy1
      obtain ⟨R2, gO⟩ := hs1 x
      refine E.cl (E.gm rfl rfl rfl (E.gm rfl rfl rfl (E.gm rfl rfl rfl (E.gm rfl rfl rfl (E.gr rfl (E.Runs.indexAddrA (i := q.2) rfl rfl rfl hu27 z55 o55 (by omega) rfl (show _ = (⟨g, (i + q.2) * 6, none⟩ : Addr) from by rw [Go.Addr.add_mid, ← Nat.add_mul])) ?_)))))
      refine E.gr rfl (E.Runs.loads (cs := [.int .i64 x.f0, .int .i64 x.f1, .int .i64 x.f2, .int .i64 x.f3, .int .i64 x.f4, .int .i64 x.f5]) rfl rfl hu55 rfl info55s (fun j v hv => by rw [Go.Addr.add_mid]; exact X j v hv)) ?_
      refine E.gr rfl (E.Runs.indexAddrA (i := q.1) rfl rfl rfl hu27 z55 o55 (by omega) rfl (show _ = (⟨g, q.1 * 6, none⟩ : Addr) from by rw [Go.Addr.add_mid, Nat.zero_add])) ?_
      refine E.GL.sn rfl rfl (E.ST.storeMid (g := g) (off := q.1 * 6) (cells := rC x) rfl rfl rfl t1 info55s (rep_one x) ?_)
      replace K := E.below_own K hg gO
      refine E.gd (E.qc (E.cl (E.gm rfl rfl rfl (E.gr rfl (E.Runs.add rfl rfl rfl (IntWalk.i64_in _ (by omega))) ?_))))
      refine E.ga rfl rfl rfl (E.gd (E.QG.block_normal (E.qc (E.cl (E.gm rfl rfl rfl (E.gr rfl (E.Runs.add rfl rfl rfl (IntWalk.i64_in _ (by omega))) ?_))))))
      refine E.ga rfl rfl rfl (E.gd ?_)
      exact E.QG.round2 (d := []) (q.1 + 1, q.2 + 1) (o.set q.1 x) (E.subc rfl (E.subc rfl (E.subc rfl (E.subc rfl E.subn)))) (by first | exact ⟨⟨by dsimp only; omega, by dsimp only; omega, by dsimp only; omega, by dsimp only; omega⟩, by rw [List.length_set]; exact hlo, htk2, hsm2, R2, K⟩ | exact ⟨⟨by dsimp only; omega, by dsimp only; omega, by dsimp only; omega, by dsimp only; omega⟩, hlo, htk2, (fun j hj => hsm j (by dsimp only at hj; omega)), R, K⟩ | fail) (by omega)
    ·have hqn : i + q.2 = n := by omega
     have hfin : o.take q.1 = cpt l := by rw [htk, hqn, List.take_of_length_le (by omega)]
     have hcl : (cpt l).length = q.1 := by rw [← hfin, List.length_take]; omega
     refine E.gd (E.qc (E.CG.cond_f rfl (E.CG.exit (E.QG.pass_exit (E.QG.pass_exit (E.QG.block_here (E.qc (E.cs (E.cl ?_)))))))))
     refine E.gm rfl rfl rfl (E.gm rfl rfl rfl (E.gr rfl (E.Runs.sliceFrom (i := q.1) (q := some ⟨g, q.1 * 6, none⟩) rfl rfl rfl hu27 z55 o55 (by omega) hnc (by rw [if_neg (by omega), Option.map_some, Go.Addr.add_mid, Nat.zero_add])) ?_))
     refine E.GL.sn rfl rfl (E.ST.clear rfl rfl hu27 info55z (by intro v hv; simp at hv; rcases hv with rfl | rfl | rfl | rfl | rfl | rfl <;> rfl) (by omega) (row_there (by omega) fun j hj => by
      obtain ⟨z, hz⟩ := get_ex (show j < o.length by omega)
      exact (rep_own R hz).2.1) fun w14 g14 c14 y14 => ?_)
     have hT := y14 _ _ (own_type R).choose_spec
     have hC := C_front (w1 := w14) (k := q.1) (Kd.R_reads' R).2.2 (by omega) (fun x cs h => by rw [k55_open h]; exact k55_mk _ _) c14
     rw [hfin] at hC
     replace K := E.below_own K hg g14
     refine E.gd (E.qc (E.cs (E.cl (E.gm rfl rfl rfl (E.gm rfl rfl rfl (E.gr rfl (E.Runs.sliceTo (i := q.1) rfl rfl rfl hu27 z55 (by omega)) ?_))))))
     refine E.ga rfl rfl rfl (E.gd (E.qc (E.CG.ret (E.QG.block_ret (E.QG.pass_ret (E.QG.pass_ret (E.QG.block_ret (E.QG.pass_ret ?_))))))))
     exact E.QG.result rfl (by rw [hcl]; rfl) ⟨c, rfl, by rw [hcl]; exact hC, hT, K⟩
   ·refine E.GQ.run rfl rfl rfl (E.Runs.eqlv rfl rfl rfl rfl (fun _ _ W => run_eqGuard_agg W _ _ _ _ _ _ Try.eqGuardType55) (fun W => (equal55 x y W).trans (by rw [decide_eq_false hxy25]))) ?_
    refine E.GQ.doneB fun v6 lD => ?_
    replace R := Kd.R_below R lD
    replace K := below_step K lD
    have lD6 := lD
    clear lD
    refine E.qc (E.CG.cond_f rfl (E.CG.skip (E.QG.block_normal (E.qc ?_))))
    have hne2 : ∀ (j : Nat) (a b : S55), j + 1 < i + 1 → l[j]? = some a → l[j + 1]? = some b → b ≠ a := fun j a b hj ha hb => by
     by_cases q : j + 1 < i
     ·exact hne j a b q ha hb
     ·obtain rfl : j = i - 1 := by omega
      rw [hy] at ha
      rw [show i - 1 + 1 = i by omega, hx] at hb
      injection ha with ha
      injection hb with hb
      subst ha
      subst hb
      exact hxy25
    refine E.cl (E.gm rfl rfl rfl (E.gr rfl (E.Runs.add rfl rfl rfl (IntWalk.i64_in _ (by omega))) ?_))
    refine E.ga rfl rfl rfl (E.gd ?_)
    exact E.QG.round (i + 1) (E.subc rfl (E.subc rfl E.subn)) ⟨by omega, by omega, hne2, R, K⟩ (by omega)
  ·have hin : i = n := by omega
   have hall : cpt l = l := by
    have := cpt_same (l := l) (i := n) (by omega) (by rw [← hin]; exact hne)
    rw [List.take_of_length_le (by omega)] at this
    exact this
   refine E.gd (E.qc (E.CG.cond_f rfl (E.CG.exit (E.QG.pass_exit (E.QG.pass_exit (E.QG.block_here (E.qc (E.cs (E.cl ?_)))))))))
   refine E.gm rfl rfl rfl (E.ga rfl rfl rfl (E.gd (E.qc (E.CG.ret ?_))))
   exact E.QG.result rfl (by rw [hall, hn]; rfl) ⟨c, rfl, by rw [hall]; exact (Kd.R_reads' R).2.2, own_type R, K⟩

set_option maxRecDepth 100000 in
set_option maxHeartbeats 8000000 in

theorem compact44 (w0 : World) (g n c : Nat) (l : List S64) (w : World) (hg : w0.heap.size ≤ g) (K : Below w0.heap.size w0 w) (R : Kd.R k64 64 w w0.heap.size (fun _ => True) (.slice (some ⟨g, 0, none⟩) n c) l) (hn : l.length = n) (hm : n ≤ 1000000) :
  Calls Try.prog 44 #[.slice (some ⟨g, 0, none⟩) n c] w fun e w' => ∃ c', e = .returned (.slice (some ⟨g, 0, none⟩) (cpt l).length c') ∧ Kd.C k64 w' (some ⟨g, 0, none⟩) (cpt l).length (cpt l) ∧ (∃ cs, w'.heap[g]? = some (.cells cs 64 (0, 0))) ∧ Below w0.heap.size w0 w' := by
 have hu3 := Try.underlying3
 have hu25 := Try.underlying25
 have hu64 := Try.underlying64
 obtain ⟨z3, o3⟩ := info_some info3s (by decide)
 obtain ⟨z25, o25⟩ := info_some info25s (by decide)
 obtain ⟨z64, o64⟩ := info_some info64s (by decide)
 refine E.enter (N := 61) Try.func44 rfl Try.ntmps44 (args := [.slice (some ⟨g, 0, none⟩) n c]) (by simp) ?_
 
 refine E.cs (E.cl (E.ga rfl rfl rfl (E.gd (E.qc (E.cs (E.cs (E.cl (E.gm rfl rfl rfl (E.gr rfl (E.Runs.len rfl rfl hu25) ?_)))))))))
 have hnc := (Kd.R_reads' R).2.1
 refine E.GL.cmp rfl rfl rfl (fun _ h => (E.Runs.lss rfl rfl rfl h)) (fun h8 => ?_) (fun h8 => ?_)
 ·refine E.gd (E.qc (E.CG.cond_t rfl (E.cs (E.cl (E.gm rfl rfl rfl (E.ga rfl rfl rfl (E.gd (E.qc (E.CG.ret ?_)))))))))
  refine E.QG.pass_ret ?_
  have hall : cpt l = l := by
   have := cpt_same (l := l) (i := n) (by omega) (fun j x y hj => by omega)
   rw [List.take_of_length_le (by omega)] at this
   exact this
  exact E.QG.result rfl (by rw [hall, hn]; rfl) ⟨c, rfl, by rw [hall]; exact (Kd.R_reads' R).2.2, own_type R, K⟩
 ·refine E.gd (E.qc (E.CG.cond_f rfl (E.CG.skip (E.qc (E.cs (E.cs (E.cl (E.ga rfl rfl rfl (E.gd ?_)))))))))
  refine E.qc (E.CG.block (E.CG.loop (fun (i : Nat) => [(0, .slice (some ⟨g, 0, none⟩) n c), (3, .int .i64 i)]) (fun i w' => 1 ≤ i ∧ i ≤ n ∧ (∀ (j : Nat) (x y : S64), j + 1 < i → l[j]? = some x → l[j + 1]? = some y → y ≠ x) ∧ Kd.R k64 64 w' w0.heap.size (fun _ => True) (.slice (some ⟨g, 0, none⟩) n c) l ∧ Below w0.heap.size w0 w') (fun i => n - i) 1 (E.subc rfl (E.subc rfl E.subn)) ⟨Nat.le_refl _, by omega, fun j x y hj => by omega, R, K⟩ ?_))
  rintro i w4 ⟨hi1, hi2, hne, R, K⟩
  refine E.cs (E.cs (E.cl (E.gm rfl rfl rfl (E.gm rfl rfl rfl (E.gr rfl (E.Runs.len rfl rfl hu25) ?_)))))
  refine E.GL.cmp rfl rfl rfl (fun _ h => (E.Runs.lss rfl rfl rfl h)) (fun h13 => ?_) (fun h13 => ?_)
  ·obtain ⟨x, hx⟩ := get_ex (show i < l.length by omega)
   obtain ⟨y, hy⟩ := get_ex (show i - 1 < l.length by omega)
   obtain ⟨X, _, _⟩ := call_own R hx
   obtain ⟨Y, _, _⟩ := call_own R hy
   refine E.gd (E.qc (E.CG.cond_t rfl (E.CG.skip (E.qc (E.cs (E.CG.block (E.cs (E.CG.quietF (by kernel_rfl) rfl (by kernel_rfl) (by kernel_rfl) ?_))))))))
   refine E.GQ.run rfl rfl rfl (E.Runs.move rfl rfl) ?_
   refine E.GQ.run rfl rfl rfl (E.Runs.move rfl rfl) ?_
   refine E.GQ.run rfl rfl rfl (E.Runs.indexAddrA (i := i) rfl rfl rfl hu25 z64 o64 (by omega) rfl (show _ = (⟨g, i * 5, none⟩ : Addr) from by rw [Go.Addr.add_mid, Nat.zero_add])) ?_
   refine E.GQ.run rfl rfl rfl (E.Runs.loads (cs := [.int .i64 x.f0, .int .i64 x.f1, .int .i64 x.f2, .int .i64 x.f3, .int .i64 x.f4]) rfl rfl hu64 rfl info64s (fun j v hv => by rw [Go.Addr.add_mid]; exact X j v hv)) ?_
   refine E.GQ.run rfl rfl rfl (E.Runs.move rfl rfl) ?_
   refine E.GQ.run rfl rfl rfl (E.Runs.move rfl rfl) ?_
   refine E.GQ.run rfl rfl rfl (E.Runs.sub rfl rfl rfl ((IntWalk.i64_in _ (by omega)).trans (show _ = ((i - 1 : Nat) : Int) from by omega))) ?_
   refine E.GQ.run rfl rfl rfl (E.Runs.indexAddrA (i := (i - 1)) rfl rfl rfl hu25 z64 o64 (by omega) rfl (show _ = (⟨g, (i - 1) * 5, none⟩ : Addr) from by rw [Go.Addr.add_mid, Nat.zero_add])) ?_
   refine E.GQ.run rfl rfl rfl (E.Runs.loads (cs := [.int .i64 y.f0, .int .i64 y.f1, .int .i64 y.f2, .int .i64 y.f3, .int .i64 y.f4]) rfl rfl hu64 rfl info64s (fun j v hv => by rw [Go.Addr.add_mid]; exact Y j v hv)) ?_
   by_cases hxy25 : x = y
   ·refine E.GQ.run rfl rfl rfl (E.Runs.eqlv rfl rfl rfl rfl (fun _ _ W => run_eqGuard_agg W _ _ _ _ _ _ Try.eqGuardType64) (fun W => (equal64 x y W).trans (by rw [decide_eq_true hxy25]))) ?_
    refine E.GQ.doneB fun v6 lD => ?_
    replace R := Kd.R_below R lD
    replace K := below_step K lD
    have lD6 := lD
    clear lD
    refine E.qc (E.CG.cond_t rfl (E.cs ?_))
    have hst : l.take i = cpt (l.take (i + 1)) := by
     rw [take_one hx, cpt_snoc (p := i - 1) (x := y) (by rw [List.length_take]; omega) (by rw [List.getElem?_take, if_pos (by omega)]; exact hy), if_pos hxy25, cpt_same (by omega) hne]
    refine E.cl (E.gm rfl rfl rfl (E.gm rfl rfl rfl (E.gr rfl (E.Runs.sliceFrom (i := i) rfl rfl rfl hu25 z64 o64 (by omega) hnc (by rw [if_neg (by omega), Option.map_some, Go.Addr.add_mid, Nat.zero_add])) ?_)))
    refine E.ga rfl rfl rfl (E.gd (E.qc (E.cs (E.cs (E.cl (E.ga rfl rfl rfl (E.gd (E.qc (E.CG.block ?_)))))))))
    have s9_K := K
    refine E.CG.loop2 (fun (q : Nat × Nat) (o : List S64) => [(0, .slice (some ⟨g, 0, none⟩) n c), (3, .int .i64 (q.1 : Int)), (4, .slice (some ⟨g, i * 5, none⟩) (n - i) (c - i)), (5, .int .i64 (q.2 : Int))]) (fun q o w' => (1 ≤ q.2 ∧ q.2 ≤ n - i ∧ i ≤ q.1 ∧ q.1 + 1 ≤ i + q.2) ∧ o.length = n ∧ o.take q.1 = cpt (l.take (i + q.2)) ∧ (∀ j, i + q.2 ≤ j + 1 → o[j]? = l[j]?) ∧ Kd.R k64 64 w' w0.heap.size (fun _ => True) (.slice (some ⟨g, 0, none⟩) n c) o ∧ Below w0.heap.size w0 w') (fun q o => n - q.2) (i, 1) l (E.subc rfl (E.subc rfl (E.subc rfl (E.subc rfl E.subn)))) ⟨⟨Nat.le_refl _, by omega, Nat.le_refl _, Nat.le_refl _⟩, hn, hst, (fun j hj => rfl), R, K⟩ ?_
    rintro q o w9 ⟨⟨hq1, hq2, hq3, hq4⟩, hlo, htk, hsm, R, K⟩
    refine E.cs (E.cs (E.cl (E.gm rfl rfl rfl (E.gm rfl rfl rfl (E.gr rfl (E.Runs.len rfl rfl hu25) ?_)))))
    refine E.GL.cmp rfl rfl rfl (fun _ h => (E.Runs.lss rfl rfl rfl h)) (fun h32 => ?_) (fun h32 => ?_)
    ·obtain ⟨x, hx⟩ := get_ex (show i + q.2 < o.length by omega)
     obtain ⟨y, hy⟩ := get_ex (show i + q.2 - 1 < o.length by omega)
     obtain ⟨X, _, _⟩ := call_own R hx
     obtain ⟨Y, _, _⟩ := call_own R hy
     have hlx : l[i + q.2]? = some x := (hsm _ (by omega)).symm.trans hx
     have hly : l[i + q.2 - 1]? = some y := (hsm _ (by omega)).symm.trans hy
     have hsn := cpt_snoc (l := l.take (i + q.2)) (a := x) (x := y) (p := i + q.2 - 1) (by rw [List.length_take]; omega) (by rw [List.getElem?_take, if_pos (by omega)]; exact hly)
     rw [← take_one hlx] at hsn
     refine E.gd (E.qc (E.CG.cond_t rfl (E.CG.skip (E.qc (E.cs (E.CG.block (E.cs (E.CG.quietF (by kernel_rfl) rfl (by kernel_rfl) (by kernel_rfl) ?_))))))))
     refine E.GQ.run rfl rfl rfl (E.Runs.move rfl rfl) ?_
     refine E.GQ.run rfl rfl rfl (E.Runs.move rfl rfl) ?_
     refine E.GQ.run rfl rfl rfl (E.Runs.indexAddrA (i := q.2) rfl rfl rfl hu25 z64 o64 (by omega) rfl (show _ = (⟨g, (i + q.2) * 5, none⟩ : Addr) from by rw [Go.Addr.add_mid, ← Nat.add_mul])) ?_
     refine E.GQ.run rfl rfl rfl (E.Runs.loads (cs := [.int .i64 x.f0, .int .i64 x.f1, .int .i64 x.f2, .int .i64 x.f3, .int .i64 x.f4]) rfl rfl hu64 rfl info64s (fun j v hv => by rw [Go.Addr.add_mid]; exact X j v hv)) ?_
     refine E.GQ.run rfl rfl rfl (E.Runs.move rfl rfl) ?_
     refine E.GQ.run rfl rfl rfl (E.Runs.move rfl rfl) ?_
     refine E.GQ.run rfl rfl rfl (E.Runs.sub rfl rfl rfl ((IntWalk.i64_in _ (by omega)).trans (show _ = ((q.2 - 1 : Nat) : Int) from by omega))) ?_
     refine E.GQ.run rfl rfl rfl (E.Runs.indexAddrA (i := (q.2 - 1)) rfl rfl rfl hu25 z64 o64 (by omega) rfl (show _ = (⟨g, (i + q.2 - 1) * 5, none⟩ : Addr) from by rw [Go.Addr.add_mid, ← Nat.add_mul, show i + (q.2 - 1) = i + q.2 - 1 by omega])) ?_
     refine E.GQ.run rfl rfl rfl (E.Runs.loads (cs := [.int .i64 y.f0, .int .i64 y.f1, .int .i64 y.f2, .int .i64 y.f3, .int .i64 y.f4]) rfl rfl hu64 rfl info64s (fun j v hv => by rw [Go.Addr.add_mid]; exact Y j v hv)) ?_
     by_cases hxy44 : x = y
     ·rw [if_pos hxy44] at hsn
      have htk2 : o.take q.1 = cpt (l.take (i + (q.2 + 1))) := htk.trans hsn.symm
      refine E.GQ.run rfl rfl rfl (E.Runs.neqv rfl rfl rfl rfl (fun _ _ W => run_eqGuard_agg W _ _ _ _ _ _ Try.eqGuardType64) (fun W => (equal64 x y W).trans (by rw [decide_eq_true hxy44])) rfl) ?_
      refine E.GQ.doneB fun v11 lD => ?_
      replace R := Kd.R_below R lD
      replace K := below_step K lD
      have lD11 := lD
      clear lD
      refine E.qc (E.CG.cond_f rfl (E.CG.skip (E.QG.block_normal (E.qc (E.cl (E.gm rfl rfl rfl (E.gr rfl (E.Runs.add rfl rfl rfl (IntWalk.i64_in _ (by omega))) ?_)))))))
      refine E.ga rfl rfl rfl (E.gd ?_)
      exact E.QG.round2 (d := []) (q.1, q.2 + 1) o (E.subc rfl (E.subc rfl (E.subc rfl (E.subc rfl E.subn)))) (by first | exact ⟨⟨by dsimp only; omega, by dsimp only; omega, by dsimp only; omega, by dsimp only; omega⟩, by rw [List.length_set]; exact hlo, htk2, hsm2, R2, K⟩ | exact ⟨⟨by dsimp only; omega, by dsimp only; omega, by dsimp only; omega, by dsimp only; omega⟩, hlo, htk2, (fun j hj => hsm j (by dsimp only at hj; omega)), R, K⟩ | fail) (by omega)
     ·refine E.GQ.run rfl rfl rfl (E.Runs.neqv rfl rfl rfl rfl (fun _ _ W => run_eqGuard_agg W _ _ _ _ _ _ Try.eqGuardType64) (fun W => (equal64 x y W).trans (by rw [decide_eq_false hxy44])) rfl) ?_
      refine E.GQ.doneB fun v11 lD => ?_
      replace R := Kd.R_below R lD
      replace K := below_step K lD
      have lD11 := lD
      clear lD
      refine E.qc (E.CG.cond_t rfl (E.cs ?_))
      rw [if_neg hxy44] at hsn
      have htk2 : (o.set q.1 x).take (q.1 + 1) = cpt (l.take (i + (q.2 + 1))) := by
       rw [set_take (by omega), htk]
       exact hsn.symm
      have hsm2 : ∀ j, i + (q.2 + 1) ≤ j + 1 → (o.set q.1 x)[j]? = l[j]? := fun j hj => by
       rw [List.getElem?_set_ne (by omega)]
       exact hsm j (by omega)
      obtain ⟨X, _, _⟩ := call_own R hx
      obtain ⟨y1, hy1⟩ := get_ex (show q.1 < o.length by omega)
      obtain ⟨_, t1, hs1⟩ := call_own R hy1
      obtain ⟨R2, gO⟩ := hs1 x
      refine E.cl (E.gm rfl rfl rfl (E.gm rfl rfl rfl (E.gm rfl rfl rfl (E.gm rfl rfl rfl (E.gr rfl (E.Runs.indexAddrA (i := q.2) rfl rfl rfl hu25 z64 o64 (by omega) rfl (show _ = (⟨g, (i + q.2) * 5, none⟩ : Addr) from by rw [Go.Addr.add_mid, ← Nat.add_mul])) ?_)))))
      refine E.gr rfl (E.Runs.loads (cs := [.int .i64 x.f0, .int .i64 x.f1, .int .i64 x.f2, .int .i64 x.f3, .int .i64 x.f4]) rfl rfl hu64 rfl info64s (fun j v hv => by rw [Go.Addr.add_mid]; exact X j v hv)) ?_
      refine E.gr rfl (E.Runs.indexAddrA (i := q.1) rfl rfl rfl hu25 z64 o64 (by omega) rfl (show _ = (⟨g, q.1 * 5, none⟩ : Addr) from by rw [Go.Addr.add_mid, Nat.zero_add])) ?_
      refine E.GL.sn rfl rfl (E.ST.storeMid (g := g) (off := q.1 * 5) (cells := lC x) rfl rfl rfl t1 info64s (call_one x) ?_)
      replace K := E.below_own K hg gO
      refine E.gd (E.qc (E.cl (E.gm rfl rfl rfl (E.gr rfl (E.Runs.add rfl rfl rfl (IntWalk.i64_in _ (by omega))) ?_))))
      refine E.ga rfl rfl rfl (E.gd (E.QG.block_normal (E.qc (E.cl (E.gm rfl rfl rfl (E.gr rfl (E.Runs.add rfl rfl rfl (IntWalk.i64_in _ (by omega))) ?_))))))
      refine E.ga rfl rfl rfl (E.gd ?_)
      exact E.QG.round2 (d := []) (q.1 + 1, q.2 + 1) (o.set q.1 x) (E.subc rfl (E.subc rfl (E.subc rfl (E.subc rfl E.subn)))) (by first | exact ⟨⟨by dsimp only; omega, by dsimp only; omega, by dsimp only; omega, by dsimp only; omega⟩, by rw [List.length_set]; exact hlo, htk2, hsm2, R2, K⟩ | exact ⟨⟨by dsimp only; omega, by dsimp only; omega, by dsimp only; omega, by dsimp only; omega⟩, hlo, htk2, (fun j hj => hsm j (by dsimp only at hj; omega)), R, K⟩ | fail) (by omega)
    ·have hqn : i + q.2 = n := by omega
     have hfin : o.take q.1 = cpt l := by rw [htk, hqn, List.take_of_length_le (by omega)]
     have hcl : (cpt l).length = q.1 := by rw [← hfin, List.length_take]; omega
     refine E.gd (E.qc (E.CG.cond_f rfl (E.CG.exit (E.QG.pass_exit (E.QG.pass_exit (E.QG.block_here (E.qc (E.cs (E.cl ?_)))))))))
     refine E.gm rfl rfl rfl (E.gm rfl rfl rfl (E.gr rfl (E.Runs.sliceFrom (i := q.1) (q := some ⟨g, q.1 * 5, none⟩) rfl rfl rfl hu25 z64 o64 (by omega) hnc (by rw [if_neg (by omega), Option.map_some, Go.Addr.add_mid, Nat.zero_add])) ?_))
     refine E.GL.sn rfl rfl (E.ST.clear rfl rfl hu25 info64z (by intro v hv; simp at hv; rcases hv with rfl | rfl | rfl | rfl | rfl <;> rfl) (by omega) (row_there (by omega) fun j hj => by
      obtain ⟨z, hz⟩ := get_ex (show j < o.length by omega)
      exact (call_own R hz).2.1) fun w14 g14 c14 y14 => ?_)
     have hT := y14 _ _ (own_type R).choose_spec
     have hC := C_front (w1 := w14) (k := q.1) (Kd.R_reads' R).2.2 (by omega) (fun x cs h => by rw [k64_open h]; exact k64_mk _ _) c14
     rw [hfin] at hC
     replace K := E.below_own K hg g14
     refine E.gd (E.qc (E.cs (E.cl (E.gm rfl rfl rfl (E.gm rfl rfl rfl (E.gr rfl (E.Runs.sliceTo (i := q.1) rfl rfl rfl hu25 z64 (by omega)) ?_))))))
     refine E.ga rfl rfl rfl (E.gd (E.qc (E.CG.ret (E.QG.block_ret (E.QG.pass_ret (E.QG.pass_ret (E.QG.block_ret (E.QG.pass_ret ?_))))))))
     exact E.QG.result rfl (by rw [hcl]; rfl) ⟨c, rfl, by rw [hcl]; exact hC, hT, K⟩
   ·refine E.GQ.run rfl rfl rfl (E.Runs.eqlv rfl rfl rfl rfl (fun _ _ W => run_eqGuard_agg W _ _ _ _ _ _ Try.eqGuardType64) (fun W => (equal64 x y W).trans (by rw [decide_eq_false hxy25]))) ?_
    refine E.GQ.doneB fun v6 lD => ?_
    replace R := Kd.R_below R lD
    replace K := below_step K lD
    have lD6 := lD
    clear lD
    refine E.qc (E.CG.cond_f rfl (E.CG.skip (E.QG.block_normal (E.qc ?_))))
    have hne2 : ∀ (j : Nat) (a b : S64), j + 1 < i + 1 → l[j]? = some a → l[j + 1]? = some b → b ≠ a := fun j a b hj ha hb => by
     by_cases q : j + 1 < i
     ·exact hne j a b q ha hb
     ·obtain rfl : j = i - 1 := by omega
      rw [hy] at ha
      rw [show i - 1 + 1 = i by omega, hx] at hb
      injection ha with ha
      injection hb with hb
      subst ha
      subst hb
      exact hxy25
    refine E.cl (E.gm rfl rfl rfl (E.gr rfl (E.Runs.add rfl rfl rfl (IntWalk.i64_in _ (by omega))) ?_))
    refine E.ga rfl rfl rfl (E.gd ?_)
    exact E.QG.round (i + 1) (E.subc rfl (E.subc rfl E.subn)) ⟨by omega, by omega, hne2, R, K⟩ (by omega)
  ·have hin : i = n := by omega
   have hall : cpt l = l := by
    have := cpt_same (l := l) (i := n) (by omega) (by rw [← hin]; exact hne)
    rw [List.take_of_length_le (by omega)] at this
    exact this
   refine E.gd (E.qc (E.CG.cond_f rfl (E.CG.exit (E.QG.pass_exit (E.QG.pass_exit (E.QG.block_here (E.qc (E.cs (E.cl ?_)))))))))
   refine E.gm rfl rfl rfl (E.ga rfl rfl rfl (E.gd (E.qc (E.CG.ret ?_))))
   exact E.QG.result rfl (by rw [hall, hn]; rfl) ⟨c, rfl, by rw [hall]; exact (Kd.R_reads' R).2.2, own_type R, K⟩

end Go.Proofs.Ytkjefnlhhfpllaa.T
namespace Go.Proofs.Ytkjefnlhhfpllaa.T
open Go.RowKit Go.Proofs.YtkjefnlhhfpllaaW.PrintWords Go.Proofs.YtkjefnlhhfpllaaW.PrintMore
open Go.Proofs.Ytkjefnlhhfpllaa.P
set_option linter.unusedVariables false
set_option linter.unusedSimpArgs false

set_option maxRecDepth 100000 in
theorem eqNil27 (A : Option Addr) (n c : Nat) (W : World) : (Op.equal 27 (.slice A n c) (.slice none 0 0)).run Try.prog W = .ok A.isNone W := by
 have hu27 := Try.underlying27
 unfold Op.equal Op.maxDepth
 rw [show (10000 : Nat) = 9999 + 1 from rfl]
 cases A <;> (unfold Op.equalIn; go_simp)
set_option maxRecDepth 100000 in
theorem lit27n (W : World) : (Instr.buildSlice 27 0 #[]).run Try.prog W = .ok (.slice (some ⟨W.heap.size, 0, none⟩) 0 0) (W.alloc (.cells #[] 55)) := by
 have hu27 := Try.underlying27
 go_simp
theorem made55 {W : World} {base : Nat} : ∀ (x : S55) cs, k55.K W x cs → k55.M W base (fun _ => False) x cs := fun x cs h => by rw [k55_open h]; exact k55_mkM _ _ _ _
/-- Reports that do not clash, in order. -/
def OnOk (l : List S55) : Prop := ∀ (j : Nat) (x y : S55), l[j]? = some x → l[j + 1]? = some y → y.f0 = x.f0 → y = x
set_option maxRecDepth 100000 in
theorem build29 (A : Option Addr) (n c : Nat) (W : World) : (Instr.build 29 #[(1, .slice A n c)]).run Try.prog W = .ok (.agg #[.int .i64 0, .slice A n c, .slice none 0 0]) W := by
 have hu3 := Try.underlying3
 have hu26 := Try.underlying26
 have hu27 := Try.underlying27
 have hu29 := Try.underlying29
 go_simp
set_option maxRecDepth 100000 in
set_option maxHeartbeats 8000000 in

theorem clone51 (l : List S55) (A : Option Addr) (n c : Nat) (w : World) (hr : Kd.C k55 w A n l) (hn : n ≤ 1000000) (h0 : 0 < n) :
  Calls Try.prog 51 #[.slice A n c] w fun e w' => ∃ v, e = .returned v ∧ Kd.R k55 55 w' w.heap.size (fun _ => True) v l ∧ Below w.heap.size w w' := by
 have hu27 := Try.underlying27
 have hln : l.length = n := Kd.C_len hr
 obtain ⟨ad, hA⟩ : ∃ ad, A = some ad := by
  obtain ⟨h1, h2, h3⟩ := hr
  obtain ⟨ad, e, _⟩ := h3 h0
  exact ⟨ad, e⟩
 refine E.enter (N := 8) Try.func51 rfl Try.ntmps51 (args := [.slice A n c]) (by simp) ?_
 have L := Below.refl w.heap.size w
 refine E.cs (E.cl (E.ga rfl rfl rfl (E.gd (E.qc (E.cs (E.cs (E.cl (E.gm rfl rfl rfl (E.gr rfl (E.Runs.eqlv rfl rfl rfl rfl (fun _ _ _ => rfl) (fun W => (eqNil27 A n c W).trans (by rw [hA]; first | done | rfl))) ?_)))))))))
 refine E.gd (E.qc (E.CG.cond_f rfl (E.CG.skip (E.qc (E.cs (E.cl ?_))))))
 refine E.GL.st rfl rfl rfl (E.ST.litAt k55 w.heap.size (w0 := w) (ys := ([] : List S55)) (inner := []) rfl rfl E.epn lit27n (Reps.none _ _) L L.size (by simp) fun u5 w5 r5 k5 l5 n5 => ?_)
 replace L := k5
 refine E.gm rfl rfl rfl ?_
 refine E.GL.st rfl rfl rfl (E.ST.appendRows k55 w.heap.size (w0 := w) (s := .tmp 5) (x := .tmp 6) rfl hu27 info55 rfl (by decide) (by decide) rfl rfl r5 (Kd.C_below hr L) made55 L L.size (by simp only [List.length_nil]; omega) fun u7 w7 r7 k7 g7 => ?_)
 replace L := k7
 refine E.ga rfl rfl rfl (E.gd (E.qc (E.CG.ret ?_)))
 exact E.QG.result rfl rfl ⟨_, rfl, by simpa using r7, L⟩

set_option maxRecDepth 100000 in
set_option maxHeartbeats 8000000 in

theorem once_s (w : World) (l : List S55) (A : Option Addr) (c : Nat) (hr : Kd.C k55 w A l.length l) (h0 : 0 < l.length) (hn : l.length ≤ 19) (hid : Idr l) (hok : OnOk (srt l)) :
  Calls Try.prog 36 #[.slice A l.length c] w fun e w' => ∃ A' c', e = .returned (.tuple #[.slice A' (cpt (srt l)).length c', .bool true]) ∧ Kd.C k55 w' A' (cpt (srt l)).length (cpt (srt l)) ∧ Below w.heap.size w w' := by
 have hu3 := Try.underlying3
 have hu27 := Try.underlying27
 have hu55 := Try.underlying55
 obtain ⟨z3, o3⟩ := info_some info3s (by decide)
 obtain ⟨z27, o27⟩ := info_some info27s (by decide)
 obtain ⟨z55, o55⟩ := info_some info55s (by decide)
 have hsl : (srt l).length = l.length := insT_len _ _
 refine E.enter (N := 42) Try.func36 rfl Try.ntmps36 (args := [.slice A l.length c]) (by simp) ?_
 have L := Below.refl w.heap.size w
 refine E.cs (E.cl (E.ga rfl rfl rfl (E.ga rfl rfl rfl (E.gd (E.qc (E.cs (E.cl (E.gm rfl rfl rfl ?_))))))))
 refine E.GL.st rfl rfl rfl (E.ST.call rfl ent51 (E.evc rfl E.evn) ((clone51 l A l.length c _ (Kd.C_below hr L) (by omega) h0).mono ?_))
 rintro e w7 ⟨v7, rfl, R, l7⟩
 refine ⟨_, rfl, ?_⟩
 replace L := below_step L l7
 obtain ⟨g, cO, hvO, hg, _, _⟩ := Kd.R_form R (by omega)
 subst hvO
 refine E.ga rfl rfl rfl (E.gd (E.qc (E.cs (E.cl (E.gm rfl rfl rfl ?_)))))
 refine E.GL.st rfl rfl rfl (E.ST.call rfl ent52 (E.evc rfl (E.evc rfl E.evn)) ((stable52 w g l.length cO l _ hg L R hid rfl hn).mono ?_))
 rintro e w9 ⟨rfl, R, L⟩
 refine ⟨_, rfl, ?_⟩
 refine E.gd (E.qc (E.cs (E.cs (E.cl (E.ga rfl rfl rfl (E.gd (E.qc (E.CG.block ?_))))))))
 have s4_L := L
 refine E.CG.loop (fun (i : Nat) => [(4, .slice (some ⟨g, 0, none⟩) l.length cO), (5, .int .i64 i)]) (fun i w' => 1 ≤ i ∧ i ≤ l.length ∧ Kd.R k55 55 w' w.heap.size (fun _ => True) (.slice (some ⟨g, 0, none⟩) l.length cO) (srt l) ∧ Below w.heap.size w w') (fun i => l.length - i) 1 (E.subc rfl (E.subc rfl E.subn)) ⟨Nat.le_refl _, by omega, R, L⟩ ?_
 rintro i w4 ⟨hi1, hi2, R, L⟩
 refine E.cs (E.cs (E.cl (E.gm rfl rfl rfl (E.gm rfl rfl rfl (E.gr rfl (E.Runs.len rfl rfl hu27) ?_)))))
 refine E.GL.cmp rfl rfl rfl (fun _ h => (E.Runs.lss rfl rfl rfl h)) (fun h13 => ?_) (fun h13 => ?_)
 ·obtain ⟨x, hx⟩ := get_ex (show i < (srt l).length by omega)
  obtain ⟨y, hy⟩ := get_ex (show i - 1 < (srt l).length by omega)
  obtain ⟨X, _, _⟩ := rep_own R hx
  obtain ⟨Y, _, _⟩ := rep_own R hy
  refine E.gd (E.qc (E.CG.cond_t rfl (E.CG.skip (E.qc (E.cs (E.CG.block (E.cs (E.CG.quietF (by kernel_rfl) rfl (by kernel_rfl) (by kernel_rfl) ?_))))))))
  refine E.GQ.run rfl rfl rfl (E.Runs.move rfl rfl) ?_
  refine E.GQ.run rfl rfl rfl (E.Runs.move rfl rfl) ?_
  refine E.GQ.run rfl rfl rfl (E.Runs.indexAddrA (i := i) rfl rfl rfl hu27 z55 o55 (by omega) rfl (show _ = (⟨g, i * 6, none⟩ : Addr) from by rw [Go.Addr.add_mid, Nat.zero_add])) ?_
  refine E.GQ.run rfl rfl rfl (E.Runs.fieldAddr rfl rfl hu55 rfl (by assumption) rfl) ?_
  refine E.GQ.run rfl rfl rfl (E.Runs.load rfl rfl hu3 (X 0 _ rfl)) ?_
  refine E.GQ.run rfl rfl rfl (E.Runs.move rfl rfl) ?_
  refine E.GQ.run rfl rfl rfl (E.Runs.move rfl rfl) ?_
  refine E.GQ.run rfl rfl rfl (E.Runs.sub rfl rfl rfl ((IntWalk.i64_in _ (by omega)).trans (show _ = ((i - 1 : Nat) : Int) from by omega))) ?_
  refine E.GQ.run rfl rfl rfl (E.Runs.indexAddrA (i := (i - 1)) rfl rfl rfl hu27 z55 o55 (by omega) rfl (show _ = (⟨g, (i - 1) * 6, none⟩ : Addr) from by rw [Go.Addr.add_mid, Nat.zero_add])) ?_
  refine E.GQ.run rfl rfl rfl (E.Runs.fieldAddr rfl rfl hu55 rfl (by assumption) rfl) ?_
  refine E.GQ.run rfl rfl rfl (E.Runs.load rfl rfl hu3 (Y 0 _ rfl)) ?_
  refine E.GQ.cmp rfl rfl rfl (fun _ h => (E.Runs.eql rfl rfl rfl h)) (fun h27 => ?_) (fun h27 => ?_)
  ·have hxy : x = y := hok (i - 1) y x hy (by rw [show i - 1 + 1 = i by omega]; exact hx) h27
   refine E.GQ.run rfl rfl rfl (E.Runs.move rfl rfl) ?_
   refine E.GQ.run rfl rfl rfl (E.Runs.move rfl rfl) ?_
   refine E.GQ.run rfl rfl rfl (E.Runs.move rfl rfl) ?_
   refine E.GQ.run rfl rfl rfl (E.Runs.indexAddrA (i := i) rfl rfl rfl hu27 z55 o55 (by omega) rfl (show _ = (⟨g, i * 6, none⟩ : Addr) from by rw [Go.Addr.add_mid, Nat.zero_add])) ?_
   refine E.GQ.run rfl rfl rfl (E.Runs.loads (cs := [.int .i64 x.f0, .int .i64 x.f1, .int .i64 x.f2, .int .i64 x.f3, .int .i64 x.f4, .int .i64 x.f5]) rfl rfl hu55 rfl info55s (fun q v hv => by rw [Go.Addr.add_mid]; exact X q v hv)) ?_
   refine E.GQ.run rfl rfl rfl (E.Runs.move rfl rfl) ?_
   refine E.GQ.run rfl rfl rfl (E.Runs.move rfl rfl) ?_
   refine E.GQ.run rfl rfl rfl (E.Runs.sub rfl rfl rfl ((IntWalk.i64_in _ (by omega)).trans (show _ = ((i - 1 : Nat) : Int) from by omega))) ?_
   refine E.GQ.run rfl rfl rfl (E.Runs.indexAddrA (i := (i - 1)) rfl rfl rfl hu27 z55 o55 (by omega) rfl (show _ = (⟨g, (i - 1) * 6, none⟩ : Addr) from by rw [Go.Addr.add_mid, Nat.zero_add])) ?_
   refine E.GQ.run rfl rfl rfl (E.Runs.loads (cs := [.int .i64 y.f0, .int .i64 y.f1, .int .i64 y.f2, .int .i64 y.f3, .int .i64 y.f4, .int .i64 y.f5]) rfl rfl hu55 rfl info55s (fun q v hv => by rw [Go.Addr.add_mid]; exact Y q v hv)) ?_
   refine E.GQ.run rfl rfl rfl (E.Runs.neqv rfl rfl rfl rfl (fun _ _ W => run_eqGuard_agg W _ _ _ _ _ _ Try.eqGuardType55) (fun W => (equal55 x y W).trans (by rw [decide_eq_true hxy])) rfl) ?_
   refine E.GQ.run rfl rfl rfl (E.Runs.pick_t rfl rfl rfl) ?_
   refine E.GQ.doneB fun v6 lD => ?_
   replace R := Kd.R_below R lD
   replace L := below_step L lD
   have lD6 := lD
   clear lD
   refine E.qc (E.CG.cond_f rfl (E.CG.skip (E.QG.block_normal (E.qc (E.cl (E.gm rfl rfl rfl (E.gr rfl (E.Runs.add rfl rfl rfl (IntWalk.i64_in _ (by omega))) ?_)))))))
   refine E.ga rfl rfl rfl (E.gd ?_)
   exact E.QG.round (i + 1) (E.subc rfl (E.subc rfl E.subn)) ⟨by omega, by omega, R, L⟩ (by omega)
  ·refine E.GQ.run rfl rfl rfl (E.Runs.move rfl rfl) ?_
   refine E.GQ.skip rfl rfl rfl ?_
   refine E.GQ.skip rfl rfl rfl ?_
   refine E.GQ.skip rfl rfl rfl ?_
   refine E.GQ.skip rfl rfl rfl ?_
   refine E.GQ.skip rfl rfl rfl ?_
   refine E.GQ.skip rfl rfl rfl ?_
   refine E.GQ.skip rfl rfl rfl ?_
   refine E.GQ.skip rfl rfl rfl ?_
   refine E.GQ.skip rfl rfl rfl ?_
   refine E.GQ.skip rfl rfl rfl ?_
   refine E.GQ.run rfl rfl rfl (E.Runs.pick_f rfl rfl rfl) ?_
   refine E.GQ.doneB fun v6 lD => ?_
   replace R := Kd.R_below R lD
   replace L := below_step L lD
   have lD6 := lD
   clear lD
   refine E.qc (E.CG.cond_f rfl (E.CG.skip (E.QG.block_normal (E.qc (E.cl (E.gm rfl rfl rfl (E.gr rfl (E.Runs.add rfl rfl rfl (IntWalk.i64_in _ (by omega))) ?_)))))))
   refine E.ga rfl rfl rfl (E.gd ?_)
   exact E.QG.round (i + 1) (E.subc rfl (E.subc rfl E.subn)) ⟨by omega, by omega, R, L⟩ (by omega)
 ·refine E.gd (E.qc (E.CG.cond_f rfl (E.CG.exit (E.QG.pass_exit (E.QG.pass_exit (E.QG.block_here (E.qc (E.cs (E.cl ?_)))))))))
  refine E.gm rfl rfl rfl ?_
  refine E.GL.st rfl rfl rfl (E.ST.call rfl ent54 (E.evc rfl E.evn) ((compact54 w g l.length cO (srt l) _ hg L R hsl (by omega)).mono ?_))
  rintro e w41 ⟨c', rfl, hC, _, L⟩
  refine ⟨_, rfl, ?_⟩
  refine E.ga rfl rfl rfl (E.ga rfl rfl rfl (E.gd (E.qc (E.CG.ret ?_))))
  exact E.QG.result2 rfl rfl rfl ⟨_, c', rfl, hC, L⟩

set_option maxRecDepth 100000 in
set_option maxHeartbeats 8000000 in

theorem isReport_s (V : Bk) (m : Ba) (x : S55) (w : World) (hM : BM w V m) (ok : BOk V) (hR : ROk V.cs x) :
  Calls Try.prog 68 #[bv V m, .agg #[.int .i64 x.f0, .int .i64 x.f1, .int .i64 x.f2, .int .i64 x.f3, .int .i64 x.f4, .int .i64 x.f5]] w fun e w' => e = .returned (.bool true) ∧ Below w.heap.size w w' := by
 have hu3 := Try.underlying3
 have hu22 := Try.underlying22
 have hu26 := Try.underlying26
 have hu27 := Try.underlying27
 have hu29 := Try.underlying29
 have hu34 := Try.underlying34
 have hu36 := Try.underlying36
 have hu55 := Try.underlying55
 obtain ⟨z3, o3⟩ := info_some info3s (by decide)
 obtain ⟨z36, o36⟩ := info_some info36s (by decide)
 obtain ⟨z55, o55⟩ := info_some info55s (by decide)
 refine E.enter (N := 44) Try.func68 rfl Try.ntmps68 (args := [bv V m, .agg #[.int .i64 x.f0, .int .i64 x.f1, .int .i64 x.f2, .int .i64 x.f3, .int .i64 x.f4, .int .i64 x.f5]]) (by simp) ?_
 have L := Below.refl w.heap.size w
 refine E.cs (E.cl ?_)
 refine E.GL.st rfl rfl rfl (E.ST.box rfl rfl fun g2 w2 e2 b2 l2 => ?_)
 have h2_L : w.heap.size ≤ g2 := by rw [e2]; exact L.size
 replace L := below_step L l2
 refine E.GL.st rfl rfl rfl (E.ST.box rfl rfl fun g3 w3 e3 b3 l3 => ?_)
 have h3_L : w.heap.size ≤ g3 := by rw [e3]; exact L.size
 have n3_b2 : g2 ≠ g3 := by have := blk_lt b2; omega
 replace b2 := blk_below b2 l3
 replace L := below_step L l3
 refine E.ga rfl rfl rfl (E.gd (E.qc (E.cs (E.cl (E.gr rfl (E.Runs.loads (cs := [.int .i64 V.tax, .slice m.A V.cs.length m.a, .slice m.B V.rs.length m.b]) rfl rfl hu29 rfl info29s (blk_cells b2)) ?_)))))
 refine E.gr rfl (E.Runs.fieldAddr rfl rfl hu55 rfl (by assumption) rfl) ?_
 refine E.gr rfl (E.Runs.load rfl rfl hu3 (by first | assumption | exact E.blkc (by assumption) rfl | exact pw_cell_below L (by assumption))) ?_
 refine E.GL.st rfl rfl rfl (E.ST.call rfl ent33 (E.evc rfl (E.evc rfl E.evn)) ((contract_s V m x.f2 w _ L hM.cs (by have := ok.n; omega)).mono ?_))
 rintro e w11 ⟨q, qa, qk, qb, ql, r11, rfl, hq, l11⟩
 refine ⟨_, rfl, ?_⟩
 replace b2 := blk_below b2 l11
 replace b3 := blk_below b3 l11
 replace L := below_step L l11
 have hr11 : r11 = true := by
  rcases r11 with _ | _
  ·obtain ⟨c0, h1, h2⟩ := hR.ex
   exact absurd h2 (hq.2.2 rfl c0 h1)
  ·rfl
 subst hr11
 obtain ⟨hqm, hqf⟩ := hq.2.1 rfl
 have hqw := hR.wk q hqm hqf
 refine E.gm rfl rfl rfl (E.gr rfl (E.Runs.extract rfl rfl rfl) ?_)
 refine E.gr rfl (E.Runs.extract rfl rfl rfl) ?_
 refine E.GL.st rfl rfl rfl (E.ST.alloc rfl info36z fun g5 w5 e5 b5 l5 => ?_)
 have h5_L : w.heap.size ≤ g5 := by rw [e5]; exact L.size
 have n5_b2 : g2 ≠ g5 := by have := blk_lt b2; omega
 have n5_b3 : g3 ≠ g5 := by have := blk_lt b3; omega
 replace b2 := blk_below b2 l5
 replace b3 := blk_below b3 l5
 replace L := below_step L l5
 refine E.GL.store_whole rfl rfl rfl rfl rfl b5 rfl info36s (con_one _ _ _ _ _ _ _ _ _ _ _ _ _) fun wS1_8 c5 lS1_8 => ?_
 replace b2 := blk_grown b2 lS1_8 (E.nes (by first | assumption | exact Ne.symm (by assumption)))
 replace b3 := blk_grown b3 lS1_8 (E.nes (by first | assumption | exact Ne.symm (by assumption)))
 replace L := E.below_own L h5_L lS1_8
 replace b5 := c5
 clear c5
 refine E.ga rfl rfl rfl (E.gd (E.qc (E.cs (E.cl (E.gm rfl rfl rfl (E.gm rfl rfl rfl (E.gr rfl (E.Runs.fieldAddr rfl rfl hu55 rfl (by assumption) rfl) ?_)))))))
 refine E.gr rfl (E.Runs.load rfl rfl hu3 (by first | assumption | exact E.blkc (by assumption) rfl | exact pw_cell_below L (by assumption))) ?_
 refine E.GL.st rfl rfl rfl (E.ST.call rfl ent23 (E.evc rfl (E.evc rfl (E.evc rfl E.evn))) ((within_s x.f0 0 99 true (iff_of_true rfl hR.n.1) _).mono ?_))
 rintro e w18 ⟨rfl, l18⟩
 refine ⟨_, rfl, ?_⟩
 replace b2 := blk_below b2 l18
 replace b3 := blk_below b3 l18
 replace b5 := blk_below b5 l18
 replace L := below_step L l18
 refine E.gt rfl rfl rfl rfl (E.gm rfl rfl rfl (E.gr rfl (E.Runs.fieldAddr rfl rfl hu55 rfl (by assumption) rfl) ?_))
 refine E.gr rfl (E.Runs.load rfl rfl hu3 (by first | assumption | exact E.blkc (by assumption) rfl | exact pw_cell_below L (by assumption))) ?_
 refine E.GL.st rfl rfl rfl (E.ST.call rfl ent23 (E.evc rfl (E.evc rfl (E.evc rfl E.evn))) ((within_s x.f1 1 2 true (iff_of_true rfl hR.n.2.1) _).mono ?_))
 rintro e w23 ⟨rfl, l23⟩
 refine ⟨_, rfl, ?_⟩
 replace b2 := blk_below b2 l23
 replace b3 := blk_below b3 l23
 replace b5 := blk_below b5 l23
 replace L := below_step L l23
 refine E.gt rfl rfl rfl rfl (E.gm rfl rfl rfl (E.gr rfl (E.Runs.fieldAddr rfl rfl hu55 rfl (by assumption) rfl) ?_))
 refine E.gr rfl (E.Runs.load rfl rfl hu3 (by first | assumption | exact E.blkc (by assumption) rfl | exact pw_cell_below L (by assumption))) ?_
 refine E.gr rfl (E.Runs.fieldAddr rfl rfl hu36 rfl (by assumption) rfl) ?_
 refine E.gr rfl (E.Runs.load rfl rfl hu3 (by first | assumption | exact E.blkc (by assumption) rfl | exact pw_cell_below L (by assumption))) ?_
 refine E.gr rfl (E.Runs.fieldAddr rfl rfl hu36 rfl (by assumption) rfl) ?_
 refine E.gr rfl (E.Runs.load rfl rfl hu3 (by first | assumption | exact E.blkc (by assumption) rfl | exact pw_cell_below L (by assumption))) ?_
 refine E.GL.st rfl rfl rfl (E.ST.call rfl ent23 (E.evc rfl (E.evc rfl (E.evc rfl E.evn))) ((within_s x.f3 q.f1 q.f2 true (iff_of_true rfl hqw) _).mono ?_))
 rintro e w32 ⟨rfl, l32⟩
 refine ⟨_, rfl, ?_⟩
 replace b2 := blk_below b2 l32
 replace b3 := blk_below b3 l32
 replace b5 := blk_below b5 l32
 replace L := below_step L l32
 refine E.gt rfl rfl rfl rfl (E.gm rfl rfl rfl (E.gr rfl (E.Runs.fieldAddr rfl rfl hu55 rfl (by assumption) rfl) ?_))
 refine E.gr rfl (E.Runs.load rfl rfl hu3 (by first | assumption | exact E.blkc (by assumption) rfl | exact pw_cell_below L (by assumption))) ?_
 refine E.GL.st rfl rfl rfl (E.ST.call rfl ent23 (E.evc rfl (E.evc rfl (E.evc rfl E.evn))) ((within_s x.f4 0 9 true (iff_of_true rfl hR.n.2.2.1) _).mono ?_))
 rintro e w37 ⟨rfl, l37⟩
 refine ⟨_, rfl, ?_⟩
 replace b2 := blk_below b2 l37
 replace b3 := blk_below b3 l37
 replace b5 := blk_below b5 l37
 replace L := below_step L l37
 refine E.gt rfl rfl rfl rfl (E.gm rfl rfl rfl (E.gr rfl (E.Runs.fieldAddr rfl rfl hu55 rfl (by assumption) rfl) ?_))
 refine E.gr rfl (E.Runs.load rfl rfl hu3 (by first | assumption | exact E.blkc (by assumption) rfl | exact pw_cell_below L (by assumption))) ?_
 refine E.GL.st rfl rfl rfl (E.ST.call rfl ent63 (E.evc rfl E.evn) ((take_s x.f5 true (iff_of_true rfl hR.n.2.2.2) _).mono ?_))
 rintro e w42 ⟨rfl, l42⟩
 refine ⟨_, rfl, ?_⟩
 replace b2 := blk_below b2 l42
 replace b3 := blk_below b3 l42
 replace b5 := blk_below b5 l42
 replace L := below_step L l42
 refine E.gt rfl rfl rfl rfl (E.ga rfl rfl rfl (E.gd (E.qc (E.CG.ret ?_))))
 exact E.QG.result rfl rfl ⟨rfl, L⟩

set_option maxRecDepth 100000 in
set_option maxHeartbeats 8000000 in

theorem clo67 (V : Bk) (m : Ba) (g : Nat) (w : World) (bg : w.heap[g]? = some (.cells #[.int .i64 V.tax, .slice m.A V.cs.length m.a, .slice m.B V.rs.length m.b] 29 (0, 0))) (hM : BM w V m) (ok : BOk V) (x : S55) (hR : ROk V.cs x) :
  Calls Try.prog 67 #[.agg #[.int .i64 x.f0, .int .i64 x.f1, .int .i64 x.f2, .int .i64 x.f3, .int .i64 x.f4, .int .i64 x.f5], .pointer (some ⟨g, 0, none⟩)] w fun e w' => e = .returned (.bool false) ∧ Below w.heap.size w w' := by
 have hu29 := Try.underlying29
 have hu55 := Try.underlying55
 refine E.enter (N := 8) Try.func67 rfl Try.ntmps67 (args := [.agg #[.int .i64 x.f0, .int .i64 x.f1, .int .i64 x.f2, .int .i64 x.f3, .int .i64 x.f4, .int .i64 x.f5], .pointer (some ⟨g, 0, none⟩)]) (by simp) ?_
 have L := Below.refl w.heap.size w
 refine E.cs (E.cl ?_)
 refine E.GL.st rfl rfl rfl (E.ST.box rfl rfl fun g2 w2 e2 b2 l2 => ?_)
 have h2_L : w.heap.size ≤ g2 := by rw [e2]; exact L.size
 have n2_bg : g ≠ g2 := by have := blk_lt bg; omega
 replace bg := blk_below bg l2
 replace L := below_step L l2
 refine E.ga rfl rfl rfl (E.gd (E.qc (E.cs (E.cl (E.gr rfl (E.Runs.loads (cs := [.int .i64 V.tax, .slice m.A V.cs.length m.a, .slice m.B V.rs.length m.b]) rfl rfl hu29 rfl info29s (blk_cells bg)) ?_)))))
 refine E.gr rfl (E.Runs.loads (cs := [.int .i64 x.f0, .int .i64 x.f1, .int .i64 x.f2, .int .i64 x.f3, .int .i64 x.f4, .int .i64 x.f5]) rfl rfl hu55 rfl info55s (blk_cells b2)) ?_
 refine E.GL.st rfl rfl rfl (E.ST.call rfl ent68 (E.evc rfl (E.evc rfl E.evn)) ((isReport_s V m x _ (hM.below L) ok hR).mono ?_))
 rintro e w6 ⟨rfl, l6⟩
 refine ⟨_, rfl, ?_⟩
 replace bg := blk_below bg l6
 replace b2 := blk_below b2 l6
 replace L := below_step L l6
 refine E.gr rfl (E.Runs.not rfl rfl) ?_
 refine E.ga rfl rfl rfl (E.gd (E.qc (E.CG.ret ?_)))
 exact E.QG.result rfl rfl ⟨rfl, L⟩

set_option maxRecDepth 100000 in
set_option maxHeartbeats 8000000 in

theorem index76 (V : Bk) (m : Ba) (g : Nat) (w : World) (bg : w.heap[g]? = some (.cells #[.int .i64 V.tax, .slice m.A V.cs.length m.a, .slice m.B V.rs.length m.b] 29 (0, 0))) (hM : BM w V m) (ok : BOk V) (l : List S55) (A : Option Addr) (c : Nat) (hr : Kd.C k55 w A l.length l) (hn : l.length ≤ 1000000) (hall : ∀ x ∈ l, ROk V.cs x) :
  Calls Try.prog 76 #[.slice A l.length c, .func (.func 67) #[] #[.pointer (some ⟨g, 0, none⟩)]] w fun e w' => e = .returned (.int .i64 (-1)) ∧ Below w.heap.size w w' := by
 have hu3 := Try.underlying3
 have hu27 := Try.underlying27
 have hu55 := Try.underlying55
 obtain ⟨z55, o55⟩ := info_some info55s (by decide)
 refine E.enter (N := 19) Try.func76 rfl Try.ntmps76 (args := [.slice A l.length c, .func (.func 67) #[] #[.pointer (some ⟨g, 0, none⟩)]]) (by simp) ?_
 have L := Below.refl w.heap.size w
 refine E.cs (E.cl (E.ga rfl rfl rfl (E.gd (E.qc (E.cs (E.cs (E.cl (E.gm rfl rfl rfl (E.gr rfl (E.Runs.len rfl rfl hu27) ?_)))))))))
 refine E.gm rfl rfl rfl (E.gd (E.qc (E.CG.block ?_)))
 have s2_L := L
 refine E.CG.loop (fun (i : Nat) => [(0, .slice A l.length c), (1, .func (.func 67) #[] #[.pointer (some ⟨g, 0, none⟩)]), (7, .int .i64 l.length), (8, .int .i64 i)]) (fun i w' => i ≤ l.length ∧ Below w.heap.size w w') (fun i => l.length - i) 0 (E.subc rfl (E.subc rfl (E.subc rfl (E.subc rfl E.subn)))) ⟨Nat.zero_le _, L⟩ ?_
 rintro i w2 ⟨hi, L⟩
 refine E.cs (E.cl ?_)
 refine E.GL.cmp rfl rfl rfl (fun _ h => (E.Runs.lss rfl rfl rfl h)) (fun h9 => ?_) (fun h9 => ?_)
 ·obtain ⟨x, hx⟩ := get_ex (show i < l.length by omega)
  obtain ⟨ad, eA, X⟩ := rep_at hr hx
  refine E.gd (E.qc (E.cs (E.CG.cond_t rfl (E.CG.skip (E.qc (E.cs (E.CG.block (E.cs (E.cl ?_)))))))))
  refine E.gm rfl rfl rfl (E.ga rfl rfl rfl (E.gd (E.qc (E.cs (E.cl (E.gm rfl rfl rfl (E.gm rfl rfl rfl (E.gm rfl rfl rfl (E.gr rfl (E.Runs.indexAddrA (i := i) rfl rfl rfl hu27 z55 o55 (by omega) eA rfl) ?_)))))))))
  refine E.gr rfl (E.Runs.loads (cs := [.int .i64 x.f0, .int .i64 x.f1, .int .i64 x.f2, .int .i64 x.f3, .int .i64 x.f4, .int .i64 x.f5]) rfl rfl hu55 rfl info55s (fun j v hv => pw_cell_below L (X j v hv))) ?_
  refine E.GL.st rfl rfl rfl (E.ST.callV (cap := [.pointer (some ⟨g, 0, none⟩)]) rfl ent67 rfl (E.evc rfl E.evn) ((clo67 V m g _ (blk_below bg L) (hM.below L) ok x (hall x (mem_of hx))).mono ?_))
  rintro e w16 ⟨rfl, l16⟩
  refine ⟨_, rfl, ?_⟩
  replace L := below_step L l16
  refine E.gd (E.qc (E.CG.cond_f rfl (E.CG.skip (E.QG.block_normal (E.qc (E.cl (E.gr rfl (E.Runs.add rfl rfl rfl (IntWalk.i64_in _ (by omega))) ?_)))))))
  refine E.gm rfl rfl rfl (E.gd ?_)
  exact E.QG.round (i + 1) (E.subc rfl (E.subc rfl (E.subc rfl (E.subc rfl E.subn)))) ⟨by omega, L⟩ (by omega)
 ·refine E.gd (E.qc (E.cs (E.CG.cond_f rfl (E.CG.exit (E.QG.pass_exit (E.QG.pass_exit (E.QG.block_here (E.qc (E.cs ?_)))))))))
  refine E.cl (E.ga rfl rfl rfl (E.gd (E.qc (E.CG.ret ?_))))
  exact E.QG.result rfl rfl ⟨rfl, L⟩

set_option maxRecDepth 100000 in
set_option maxHeartbeats 8000000 in

theorem contains66 (V : Bk) (m : Ba) (g : Nat) (w : World) (bg : w.heap[g]? = some (.cells #[.int .i64 V.tax, .slice m.A V.cs.length m.a, .slice m.B V.rs.length m.b] 29 (0, 0))) (hM : BM w V m) (ok : BOk V) (l : List S55) (A : Option Addr) (c : Nat) (hr : Kd.C k55 w A l.length l) (hn : l.length ≤ 1000000) (hall : ∀ x ∈ l, ROk V.cs x) :
  Calls Try.prog 66 #[.slice A l.length c, .func (.func 67) #[] #[.pointer (some ⟨g, 0, none⟩)]] w fun e w' => e = .returned (.bool false) ∧ Below w.heap.size w w' := by
 have hu3 := Try.underlying3
 have hu27 := Try.underlying27
 refine E.enter (N := 9) Try.func66 rfl Try.ntmps66 (args := [.slice A l.length c, .func (.func 67) #[] #[.pointer (some ⟨g, 0, none⟩)]]) (by simp) ?_
 have L := Below.refl w.heap.size w
 refine E.cs (E.cl (E.ga rfl rfl rfl (E.gd (E.qc (E.cs (E.cl (E.gm rfl rfl rfl (E.gm rfl rfl rfl ?_))))))))
 refine E.GL.st rfl rfl rfl (E.ST.call rfl ent76 (E.evc rfl (E.evc rfl E.evn)) ((index76 V m g _ (blk_below bg L) (hM.below L) ok l A c (Kd.C_below hr L) hn hall).mono ?_))
 rintro e w7 ⟨rfl, l7⟩
 refine ⟨_, rfl, ?_⟩
 replace L := below_step L l7
 refine E.gr rfl (E.Runs.geq rfl rfl rfl (decide_eq_false (by decide))) ?_
 refine E.ga rfl rfl rfl (E.gd (E.qc (E.CG.ret ?_)))
 exact E.QG.result rfl rfl ⟨rfl, L⟩

set_option maxRecDepth 100000 in
set_option maxHeartbeats 8000000 in

/-- The reports of books are valid. -/
structure RsOk (V : Bk) : Prop where
 n0 : 0 < V.rs.length
 n : V.rs.length ≤ 19
 all : ∀ x ∈ V.rs, ROk V.cs x
 on : OnOk (srt V.rs)
theorem RsOk.idr {V : Bk} (h : RsOk V) : Idr V.rs := fun x hx => (h.all x hx).n.1

set_option maxRecDepth 100000 in
set_option maxHeartbeats 8000000 in

theorem areReports_s (V : Bk) (m : Ba) (w : World) (hM : BM w V m) (ok : BOk V) (rk : RsOk V) :
  Calls Try.prog 48 #[bv V m, .slice m.B V.rs.length m.b] w fun e w' => e = .returned (.bool true) ∧ Below w.heap.size w w' := by
 have hu3 := Try.underlying3
 have hu27 := Try.underlying27
 have hu29 := Try.underlying29
 have hrn := rk.n
 refine E.enter (N := 24) Try.func48 rfl Try.ntmps48 (args := [bv V m, .slice m.B V.rs.length m.b]) (by simp) ?_
 have L := Below.refl w.heap.size w
 refine E.cs (E.cl ?_)
 refine E.GL.st rfl rfl rfl (E.ST.box rfl rfl fun g2 w2 e2 b2 l2 => ?_)
 have h2_L : w.heap.size ≤ g2 := by rw [e2]; exact L.size
 replace L := below_step L l2
 refine E.ga rfl rfl rfl (E.gd (E.qc (E.cs (E.cl (E.gm rfl rfl rfl ?_)))))
 refine E.GL.st rfl rfl rfl (E.ST.call rfl ent36 (E.evc rfl E.evn) ((once_s _ V.rs m.B m.b (Kd.C_below hM.rs L) rk.n0 rk.n rk.idr rk.on).mono ?_))
 rintro e w9 ⟨A9, c9, rfl, _, l9⟩
 refine ⟨_, rfl, ?_⟩
 replace b2 := blk_below b2 l9
 replace L := below_step L l9
 refine E.gm rfl rfl rfl (E.gr rfl (E.Runs.extract rfl rfl rfl) ?_)
 refine E.gr rfl (E.Runs.extract rfl rfl rfl) ?_
 refine E.ga rfl rfl rfl (E.ga rfl rfl rfl (E.gd (E.qc (E.cs (E.cl (E.gm rfl rfl rfl (E.gm rfl rfl rfl (E.gm rfl rfl rfl (E.gr rfl (E.Runs.len rfl rfl hu27) ?_)))))))))
 refine E.gr rfl (E.Runs.leq rfl rfl rfl (decide_eq_true (by omega))) ?_
 refine E.gt rfl rfl rfl rfl (E.gm rfl rfl rfl (E.gm rfl rfl rfl (E.gr rfl (E.Runs.makeFunc rfl (E.evc rfl E.evn)) ?_)))
 refine E.GL.st rfl rfl rfl (E.ST.call rfl ent66 (E.evc rfl (E.evc rfl E.evn)) ((contains66 V m g2 _ b2 (hM.below L) ok V.rs m.B m.b (Kd.C_below hM.rs L) (by omega) rk.all).mono ?_))
 rintro e w21 ⟨rfl, l21⟩
 refine ⟨_, rfl, ?_⟩
 replace b2 := blk_below b2 l21
 replace L := below_step L l21
 refine E.gr rfl (E.Runs.not rfl rfl) ?_
 refine E.gt rfl rfl rfl rfl (E.ga rfl rfl rfl (E.gd (E.qc (E.CG.ret ?_))))
 exact E.QG.result rfl rfl ⟨rfl, L⟩

set_option maxRecDepth 100000 in
set_option maxHeartbeats 8000000 in

theorem contract_p (l : List S36) (A : Option Addr) (n a : Nat) (film : Int) (w0 w : World) (K0 : Below w0.heap.size w0 w) (hl : l.length = n) (hc : Kd.C k36 w0 A n l) (hn : n ≤ 1000000) :
  Calls Try.prog 33 #[.agg #[.int .i64 0, .slice A n a, .slice none 0 0], .int .i64 film] w fun e w' => ∃ x a k b l' r, e = .returned (.tuple #[.agg #[.int .i64 x.f0, .int .i64 x.f1, .int .i64 x.f2, .slice a x.f3.length k, .slice b x.f4.length l', .int .i64 x.f5, .int .i64 x.f6, .int .i64 x.f7, .int .i64 x.f8], .bool r]) ∧ Fnd w0 l film x a k b l' r ∧ Below w.heap.size w w' := by
 subst hl
 exact contract_s ⟨0, l, []⟩ ⟨A, a, none, 0⟩ film w0 w K0 hc hn

set_option maxRecDepth 100000 in
set_option maxHeartbeats 8000000 in

theorem check8_s (V : Bk) (m : Ba) (w : World) (hM : BM w V m) (ok : BOk V) (rk : RsOk V) (hcap : V.cs.length ≤ m.a) :
  Calls Try.prog 32 #[bv V m] w fun e w' => e = .returned (.int .i64 0) ∧ Below w.heap.size w w' := by
 have hcn := ok.n
 have hu3 := Try.underlying3
 have hu22 := Try.underlying22
 have hu26 := Try.underlying26
 have hu27 := Try.underlying27
 have hu29 := Try.underlying29
 have hu34 := Try.underlying34
 have hu36 := Try.underlying36
 obtain ⟨z3, o3⟩ := info_some info3s (by decide)
 obtain ⟨z22, o22⟩ := info_some info22s (by decide)
 obtain ⟨z26, o26⟩ := info_some info26s (by decide)
 obtain ⟨z27, o27⟩ := info_some info27s (by decide)
 obtain ⟨z34, o34⟩ := info_some info34s (by decide)
 obtain ⟨z36, o36⟩ := info_some info36s (by decide)
 refine E.enter (N := 48) Try.func32 rfl Try.ntmps32 (args := [bv V m]) (by simp) ?_
 have L := Below.refl w.heap.size w
 refine E.cs (E.cl ?_)
 refine E.GL.st rfl rfl rfl (E.ST.box rfl rfl fun g1 w1 e1 b1 l1 => ?_)
 have h1_L : w.heap.size ≤ g1 := by rw [e1]; exact L.size
 replace L := below_step L l1
 refine E.ga rfl rfl rfl (E.gd (E.qc (E.cs (E.cs (E.cl (E.gr rfl (E.Runs.fieldAddr rfl rfl hu29 rfl (by assumption) rfl) ?_))))))
 refine E.gr rfl (E.Runs.load rfl rfl hu3 (by first | assumption | exact E.blkc (by assumption) rfl | exact pw_cell_below L (by assumption))) ?_
 refine E.GL.st rfl rfl rfl (E.ST.call rfl ent23 (E.evc rfl (E.evc rfl (E.evc rfl E.evn))) ((within_s V.tax 0 500 true (iff_of_true rfl ok.tax) _).mono ?_))
 rintro e w9 ⟨rfl, l9⟩
 refine ⟨_, rfl, ?_⟩
 replace b1 := blk_below b1 l9
 replace L := below_step L l9
 refine E.gr rfl (E.Runs.not rfl rfl) ?_
 refine E.gm rfl rfl rfl (E.gr rfl (E.Runs.fieldAddr rfl rfl hu29 rfl (by assumption) rfl) ?_)
 refine E.gr rfl (E.Runs.load1 rfl rfl hu26 rfl (by first | assumption | exact E.blkc (by assumption) rfl | exact pw_cell_below L (by assumption))) ?_
 refine E.gr rfl (E.Runs.len rfl rfl hu26) ?_
 refine E.gr rfl (E.Runs.gtr rfl rfl rfl (decide_eq_false (by omega))) ?_
 refine E.gr rfl (E.Runs.pick_f rfl rfl rfl) ?_
 refine E.gd (E.qc (E.CG.cond_f rfl (E.CG.skip (E.qc (E.cs (E.cs (E.cl (E.gr rfl (E.Runs.fieldAddr rfl rfl hu29 rfl (by assumption) rfl) ?_))))))))
 refine E.gr rfl (E.Runs.load1 rfl rfl hu26 rfl (by first | assumption | exact E.blkc (by assumption) rfl | exact pw_cell_below L (by assumption))) ?_
 refine E.gr rfl (E.Runs.len rfl rfl hu26) ?_
 refine E.gm rfl rfl rfl (E.gd (E.qc (E.CG.block ?_)))
 have s4_b1 := b1
 have s4_L := L
 refine E.CG.loop (fun (i : Nat) => [(1, .pointer (some ⟨g1, 0, none⟩)), (18, .slice m.A V.cs.length m.a), (19, .int .i64 V.cs.length), (20, .int .i64 i)]) (fun i w' => i ≤ V.cs.length ∧ w'.heap[g1]? = some (.cells #[.int .i64 V.tax, .slice m.A V.cs.length m.a, .slice m.B V.rs.length m.b] 29 (0, 0)) ∧ Below w.heap.size w w') (fun i => V.cs.length - i) 0 (E.subc rfl (E.subc rfl (E.subc rfl (E.subc rfl E.subn)))) ⟨Nat.zero_le _, b1, L⟩ ?_
 rintro i w4 ⟨hi, b1, L⟩
 refine E.cs (E.cl ?_)
 refine E.GL.cmp rfl rfl rfl (fun _ h => (E.Runs.lss rfl rfl rfl h)) (fun h21 => ?_) (fun h21 => ?_)
 ·obtain ⟨x, hx⟩ := get_ex (show i < V.cs.length by omega)
  obtain ⟨ad, a3, k3, a4, k4, eA, hx0, X⟩ := con_at hM.cs hx
  refine E.gd (E.qc (E.cs (E.CG.cond_t rfl (E.CG.skip (E.qc (E.cs (E.CG.block (E.cs (E.cl ?_)))))))))
  refine E.gm rfl rfl rfl (E.gr rfl (E.Runs.indexAddrA (i := i) rfl rfl rfl hu26 z36 o36 (by omega) eA rfl) ?_)
  refine E.gr rfl (E.Runs.loads (cs := [.int .i64 x.f0, .int .i64 x.f1, .int .i64 x.f2, .slice a3 x.f3.length k3, .slice a4 x.f4.length k4, .int .i64 x.f5, .int .i64 x.f6, .int .i64 x.f7, .int .i64 x.f8]) rfl rfl hu36 rfl info36s (fun j v hv => pw_cell_below L (X j v hv))) ?_
  refine E.GL.st rfl rfl rfl (E.ST.alloc rfl info36z fun g4 w4 e4 b4 l4 => ?_)
  have h4_L : w.heap.size ≤ g4 := by rw [e4]; exact L.size
  have n4_b1 : g1 ≠ g4 := by have := blk_lt b1; omega
  replace b1 := blk_below b1 l4
  replace L := below_step L l4
  refine E.ga rfl rfl rfl (E.GL.store_whole rfl rfl rfl rfl rfl b4 rfl info36s (con_one _ _ _ _ _ _ _ _ _ _ _ _ _) fun wS5_5 c4 lS5_5 => ?_)
  replace b1 := blk_grown b1 lS5_5 (E.nes (by first | assumption | exact Ne.symm (by assumption)))
  replace L := E.below_own L h4_L lS5_5
  replace b4 := c4
  clear c4
  refine E.gd (E.qc (E.cs (E.CG.heldH (none) (by kernel_rfl) fun v6 lD hh => ?_)))
  replace b1 := blk_below b1 lD
  replace b4 := blk_below b4 lD
  replace L := below_step L lD
  clear lD
  have s_b1 := b1
  have s_b4 := b4
  have s_L := L
  refine E.GH.take (i := 0) rfl (by kernel_rfl) (by kernel_rfl) (by kernel_rfl) (by intro c a d v w h; first | (cases d <;> exact h) | exact nomatch (show _ ∧ _ from h).1) rfl rfl rfl (fun w' hS => (E.Runs.fieldAddr rfl rfl hu29 rfl (by assumption) rfl)) ?_
  refine E.GH.take (i := 1) rfl (by kernel_rfl) (by kernel_rfl) (by kernel_rfl) (by intro c a d v w h; first | (cases d <;> exact h) | exact nomatch (show _ ∧ _ from h).1) rfl rfl rfl (fun w' hS => (E.Runs.load1 rfl rfl hu26 rfl (by first | exact E.keeps hS (E.blkc (by assumption) rfl) (by first | exact E.nen | exact E.nes (by assumption) | exact E.nes (Ne.symm (by assumption))) | exact pw_cell_below (below_step s_L (E.belowG hS)) (by assumption)))) ?_
  refine E.GH.take (i := 2) rfl (by kernel_rfl) (by kernel_rfl) (by kernel_rfl) (by intro c a d v w h; first | (cases d <;> exact h) | exact nomatch (show _ ∧ _ from h).1) rfl rfl rfl (fun w' hS => (E.Runs.move rfl rfl)) ?_
  refine E.GH.take (i := 3) rfl (by kernel_rfl) (by kernel_rfl) (by kernel_rfl) (by intro c a d v w h; first | (cases d <;> exact h) | exact nomatch (show _ ∧ _ from h).1) rfl rfl rfl (fun w' hS => (E.Runs.sliceTo rfl rfl rfl hu26 (by assumption) (by omega))) ?_
  refine E.GH.take (i := 4) rfl (by kernel_rfl) (by kernel_rfl) (by kernel_rfl) (by intro c a d v w h; first | (cases d <;> exact h) | exact nomatch (show _ ∧ _ from h).1) rfl rfl rfl (fun w' hS => (E.Runs.build rfl (E.epc rfl E.epn) (build29 _ _ _))) ?_
  refine E.GH.take (i := 5) rfl (by kernel_rfl) (by kernel_rfl) (by kernel_rfl) (by intro c a d v w h; first | (cases d <;> exact h) | exact nomatch (show _ ∧ _ from h).1) rfl rfl rfl (fun w' hS => (E.Runs.fieldAddr rfl rfl hu36 rfl (by assumption) rfl)) ?_
  refine E.GH.take (i := 6) rfl (by kernel_rfl) (by kernel_rfl) (by kernel_rfl) (by intro c a d v w h; first | (cases d <;> exact h) | exact nomatch (show _ ∧ _ from h).1) rfl rfl rfl (fun w' hS => (E.Runs.load rfl rfl hu3 (by first | exact E.keeps hS (E.blkc (by assumption) rfl) (by first | exact E.nen | exact E.nes (by assumption) | exact E.nes (Ne.symm (by assumption))) | exact pw_cell_below (below_step s_L (E.belowG hS)) (by assumption)))) ?_
  refine E.GH.all (rs := [7, 11]) (by kernel_rfl) (by simp) (E.GHs.cons rfl ?_ (E.GHs.cons rfl ?_ E.GHs.nil))
  ·refine E.GO.st rfl rfl rfl (E.ST.call rfl ent33 (E.evc rfl (E.evc rfl E.evn)) ((contract_p (V.cs.take i) m.A i m.a x.f0 w _ L (by rw [List.length_take]; omega) (c_pre hM.cs i (by omega)) (by omega)).mono ?_))
   rintro e w33 ⟨q, qa, qk, qb, ql, r33, rfl, hq, l33⟩
   refine ⟨_, rfl, hh.trans (E.gbB l33), ?_⟩
   replace hh := hh.trans (E.gbB l33)
   replace b1 := blk_below b1 l33
   replace b4 := blk_below b4 l33
   replace L := below_step L l33
   have hr33 : r33 = false := by
    rcases r33 with _ | _
    ·rfl
    ·obtain ⟨h1, h2⟩ := hq.2.1 rfl
     obtain ⟨k, hk⟩ := List.mem_iff_getElem?.mp h1
     have hki := get_lt hk
     rw [List.length_take] at hki
     rw [List.getElem?_take, if_pos (by omega)] at hk
     exact absurd h2 (ok.d k i q x (by omega) hk hx)
   subst hr33
   refine E.GH.take (i := 8) rfl (by kernel_rfl) (by kernel_rfl) (by kernel_rfl) (by intro c a d v w h; first | (cases d <;> exact h) | exact nomatch (show _ ∧ _ from h).1) rfl rfl rfl (fun w' hS => (E.Runs.move rfl rfl)) ?_
   refine E.GH.take (i := 9) rfl (by kernel_rfl) (by kernel_rfl) (by kernel_rfl) (by intro c a d v w h; first | (cases d <;> exact h) | exact nomatch (show _ ∧ _ from h).1) rfl rfl rfl (fun w' hS => (E.Runs.extract rfl rfl rfl)) ?_
   refine E.GH.take (i := 10) rfl (by kernel_rfl) (by kernel_rfl) (by kernel_rfl) (by intro c a d v w h; first | (cases d <;> exact h) | exact nomatch (show _ ∧ _ from h).1) rfl rfl rfl (fun w' hS => (E.Runs.extract rfl rfl rfl)) ?_
   refine E.GH.one (i := 11) (by kernel_rfl) rfl ?_
   refine E.GO.st rfl rfl rfl (E.ST.alloc rfl info36z fun g5 w5 e5 b5 l5 => ⟨hh.trans (E.gbB l5), ?_⟩)
   have hh0 := hh
   replace hh := hh.trans (E.gbB l5)
   have h5_hh : v6.heap.size ≤ g5 := by rw [e5]; exact hh0.size
   have h5_L : w.heap.size ≤ g5 := by rw [e5]; exact L.size
   have n5_b1 : g1 ≠ g5 := by have := blk_lt b1; omega
   have n5_b4 : g4 ≠ g5 := by have := blk_lt b4; omega
   clear hh0
   replace b1 := blk_below b1 l5
   replace b4 := blk_below b4 l5
   replace L := below_step L l5
   refine E.GH.one (i := 12) (by kernel_rfl) rfl ?_
   refine E.GO.sn rfl rfl (E.ST.storeS (off := 0) (cells := [.int .i64 q.f0, .int .i64 q.f1, .int .i64 q.f2, .slice qa q.f3.length qk, .slice qb q.f4.length ql, .int .i64 q.f5, .int .i64 q.f6, .int .i64 q.f7, .int .i64 q.f8]) rfl rfl rfl b5 rfl info36s (con_one _ _ _ _ _ _ _ _ _ _ _ _ _) rfl fun wS6_12 c5 lS6_12 => ⟨E.gb_own hh h5_hh lS6_12, ?_⟩)
   replace hh := E.gb_own hh h5_hh lS6_12
   replace b1 := blk_grown b1 lS6_12 (E.nes (by first | assumption | exact Ne.symm (by assumption)))
   replace b4 := blk_grown b4 lS6_12 (E.nes (by first | assumption | exact Ne.symm (by assumption)))
   replace L := E.below_own L h5_L lS6_12
   replace b5 := c5
   clear c5
   refine E.GH.take (i := 13) rfl (by kernel_rfl) (by kernel_rfl) (by kernel_rfl) (by intro c a d v w h; first | (cases d <;> exact h) | exact nomatch (show _ ∧ _ from h).1) rfl rfl rfl (fun w' hS => (E.Runs.assign rfl rfl)) ?_
   refine E.GH.done (by kernel_rfl) ?_
   refine E.qc (E.cs (E.cl (E.gm rfl rfl rfl (E.gm rfl rfl rfl (E.gr rfl (E.Runs.loads (cs := [.int .i64 x.f0, .int .i64 x.f1, .int .i64 x.f2, .slice a3 x.f3.length k3, .slice a4 x.f4.length k4, .int .i64 x.f5, .int .i64 x.f6, .int .i64 x.f7, .int .i64 x.f8]) rfl rfl hu36 rfl info36s (blk_cells b4)) ?_)))))
   refine E.GL.st rfl rfl rfl (E.ST.call rfl ent47 (E.evc rfl E.evn) ((isContract_s x a3 a4 k3 k4 _ (hx0.below L) (ok.cs x (mem_of hx))).mono ?_))
   rintro e w39 ⟨rfl, l39⟩
   refine ⟨_, rfl, ?_⟩
   replace b1 := blk_below b1 l39
   replace b4 := blk_below b4 l39
   replace b5 := blk_below b5 l39
   replace L := below_step L l39
   refine E.gr rfl (E.Runs.not rfl rfl) ?_
   refine E.gr rfl (E.Runs.pick_f rfl rfl rfl) ?_
   refine E.gd (E.qc (E.CG.cond_f rfl (E.CG.skip (E.QG.block_normal (E.qc (E.cl (E.gr rfl (E.Runs.add rfl rfl rfl (IntWalk.i64_in _ (by omega))) ?_)))))))
   refine E.gm rfl rfl rfl (E.gd ?_)
   exact E.QG.round (i + 1) (E.subc rfl (E.subc rfl (E.subc rfl (E.subc rfl E.subn)))) ⟨by omega, b1, L⟩ (by omega)
  ·refine E.GO.st rfl rfl rfl (E.ST.alloc rfl info36z fun g5 w5 e5 b5 l5 => ⟨hh.trans (E.gbB l5), ?_⟩)
   have hh0 := hh
   replace hh := hh.trans (E.gbB l5)
   have h5_hh : v6.heap.size ≤ g5 := by rw [e5]; exact hh0.size
   have h5_L : w.heap.size ≤ g5 := by rw [e5]; exact L.size
   have n5_b1 : g1 ≠ g5 := by have := blk_lt b1; omega
   have n5_b4 : g4 ≠ g5 := by have := blk_lt b4; omega
   clear hh0
   replace b1 := blk_below b1 l5
   replace b4 := blk_below b4 l5
   replace L := below_step L l5
   refine E.GH.one (i := 7) (by kernel_rfl) rfl ?_
   refine E.GO.st rfl rfl rfl (E.ST.call rfl ent33 (E.evc rfl (E.evc rfl E.evn)) ((contract_p (V.cs.take i) m.A i m.a x.f0 w _ L (by rw [List.length_take]; omega) (c_pre hM.cs i (by omega)) (by omega)).mono ?_))
   rintro e w33 ⟨q, qa, qk, qb, ql, r33, rfl, hq, l33⟩
   refine ⟨_, rfl, hh.trans (E.gbB l33), ?_⟩
   replace hh := hh.trans (E.gbB l33)
   replace b1 := blk_below b1 l33
   replace b4 := blk_below b4 l33
   replace b5 := blk_below b5 l33
   replace L := below_step L l33
   have hr33 : r33 = false := by
    rcases r33 with _ | _
    ·rfl
    ·obtain ⟨h1, h2⟩ := hq.2.1 rfl
     obtain ⟨k, hk⟩ := List.mem_iff_getElem?.mp h1
     have hki := get_lt hk
     rw [List.length_take] at hki
     rw [List.getElem?_take, if_pos (by omega)] at hk
     exact absurd h2 (ok.d k i q x (by omega) hk hx)
   subst hr33
   refine E.GH.take (i := 8) rfl (by kernel_rfl) (by kernel_rfl) (by kernel_rfl) (by intro c a d v w h; first | (cases d <;> exact h) | exact nomatch (show _ ∧ _ from h).1) rfl rfl rfl (fun w' hS => (E.Runs.move rfl rfl)) ?_
   refine E.GH.take (i := 9) rfl (by kernel_rfl) (by kernel_rfl) (by kernel_rfl) (by intro c a d v w h; first | (cases d <;> exact h) | exact nomatch (show _ ∧ _ from h).1) rfl rfl rfl (fun w' hS => (E.Runs.extract rfl rfl rfl)) ?_
   refine E.GH.take (i := 10) rfl (by kernel_rfl) (by kernel_rfl) (by kernel_rfl) (by intro c a d v w h; first | (cases d <;> exact h) | exact nomatch (show _ ∧ _ from h).1) rfl rfl rfl (fun w' hS => (E.Runs.extract rfl rfl rfl)) ?_
   refine E.GH.one (i := 12) (by kernel_rfl) rfl ?_
   refine E.GO.sn rfl rfl (E.ST.storeS (off := 0) (cells := [.int .i64 q.f0, .int .i64 q.f1, .int .i64 q.f2, .slice qa q.f3.length qk, .slice qb q.f4.length ql, .int .i64 q.f5, .int .i64 q.f6, .int .i64 q.f7, .int .i64 q.f8]) rfl rfl rfl b5 rfl info36s (con_one _ _ _ _ _ _ _ _ _ _ _ _ _) rfl fun wS6_12 c5 lS6_12 => ⟨E.gb_own hh h5_hh lS6_12, ?_⟩)
   replace hh := E.gb_own hh h5_hh lS6_12
   replace b1 := blk_grown b1 lS6_12 (E.nes (by first | assumption | exact Ne.symm (by assumption)))
   replace b4 := blk_grown b4 lS6_12 (E.nes (by first | assumption | exact Ne.symm (by assumption)))
   replace L := E.below_own L h5_L lS6_12
   replace b5 := c5
   clear c5
   refine E.GH.take (i := 13) rfl (by kernel_rfl) (by kernel_rfl) (by kernel_rfl) (by intro c a d v w h; first | (cases d <;> exact h) | exact nomatch (show _ ∧ _ from h).1) rfl rfl rfl (fun w' hS => (E.Runs.assign rfl rfl)) ?_
   refine E.GH.done (by kernel_rfl) ?_
   refine E.qc (E.cs (E.cl (E.gm rfl rfl rfl (E.gm rfl rfl rfl (E.gr rfl (E.Runs.loads (cs := [.int .i64 x.f0, .int .i64 x.f1, .int .i64 x.f2, .slice a3 x.f3.length k3, .slice a4 x.f4.length k4, .int .i64 x.f5, .int .i64 x.f6, .int .i64 x.f7, .int .i64 x.f8]) rfl rfl hu36 rfl info36s (blk_cells b4)) ?_)))))
   refine E.GL.st rfl rfl rfl (E.ST.call rfl ent47 (E.evc rfl E.evn) ((isContract_s x a3 a4 k3 k4 _ (hx0.below L) (ok.cs x (mem_of hx))).mono ?_))
   rintro e w39 ⟨rfl, l39⟩
   refine ⟨_, rfl, ?_⟩
   replace b1 := blk_below b1 l39
   replace b4 := blk_below b4 l39
   replace b5 := blk_below b5 l39
   replace L := below_step L l39
   refine E.gr rfl (E.Runs.not rfl rfl) ?_
   refine E.gr rfl (E.Runs.pick_f rfl rfl rfl) ?_
   refine E.gd (E.qc (E.CG.cond_f rfl (E.CG.skip (E.QG.block_normal (E.qc (E.cl (E.gr rfl (E.Runs.add rfl rfl rfl (IntWalk.i64_in _ (by omega))) ?_)))))))
   refine E.gm rfl rfl rfl (E.gd ?_)
   exact E.QG.round (i + 1) (E.subc rfl (E.subc rfl (E.subc rfl (E.subc rfl E.subn)))) ⟨by omega, b1, L⟩ (by omega)
 ·refine E.gd (E.qc (E.cs (E.CG.cond_f rfl (E.CG.exit (E.QG.pass_exit (E.QG.pass_exit (E.QG.block_here (E.qc (E.cs ?_)))))))))
  refine E.cs (E.cl (E.gr rfl (E.Runs.loads (cs := [.int .i64 V.tax, .slice m.A V.cs.length m.a, .slice m.B V.rs.length m.b]) rfl rfl hu29 rfl info29s (blk_cells b1)) ?_))
  refine E.gr rfl (E.Runs.fieldAddr rfl rfl hu29 rfl (by assumption) rfl) ?_
  refine E.gr rfl (E.Runs.load1 rfl rfl hu27 rfl (by first | assumption | exact E.blkc (by assumption) rfl | exact pw_cell_below L (by assumption))) ?_
  refine E.GL.st rfl rfl rfl (E.ST.call rfl ent48 (E.evc rfl (E.evc rfl E.evn)) ((areReports_s V m _ (hM.below L) ok rk).mono ?_))
  rintro e w46 ⟨rfl, l46⟩
  refine ⟨_, rfl, ?_⟩
  replace b1 := blk_below b1 l46
  replace L := below_step L l46
  refine E.gr rfl (E.Runs.not rfl rfl) ?_
  refine E.gd (E.qc (E.CG.cond_f rfl (E.CG.skip (E.qc (E.cs (E.cl (E.ga rfl rfl rfl (E.gd (E.qc ?_)))))))))
  refine E.CG.ret ?_
  exact E.QG.result rfl rfl ⟨rfl, L⟩

end Go.Proofs.Ytkjefnlhhfpllaa.T
namespace Go.Proofs.Ytkjefnlhhfpllaa.T
open Go.RowKit Go.Proofs.YtkjefnlhhfpllaaW.PrintWords Go.Proofs.YtkjefnlhhfpllaaW.PrintMore
open Go.Proofs.Ytkjefnlhhfpllaa.P
open Go.Proofs.Ytkjefnlhhfpllaa.E (upd)
set_option linter.unusedVariables false
set_option linter.unusedSimpArgs false
/-- The sum over the tills. -/
def tsum (h : Int → Int) : Int := h 0 + h 1 + h 2 + h 3 + h 4 + h 5 + h 6 + h 7 + h 8 + h 9
theorem tsum_add {h h' : Int → Int} {x d : Int} (hx : 0 ≤ x ∧ x ≤ 9) (e : ∀ t, h' t = if t = x then h t + d else h t) : tsum h' = tsum h + d := by
 unfold tsum
 rw [e 0, e 1, e 2, e 3, e 4, e 5, e 6, e 7, e 8, e 9]
 have : x = 0 ∨ x = 1 ∨ x = 2 ∨ x = 3 ∨ x = 4 ∨ x = 5 ∨ x = 6 ∨ x = 7 ∨ x = 8 ∨ x = 9 := by omega
 rcases this with rfl | rfl | rfl | rfl | rfl | rfl | rfl | rfl | rfl | rfl <;> simp <;> omega
theorem tsum_congr {h h' : Int → Int} (e : ∀ t, 0 ≤ t → t ≤ 9 → h' t = h t) : tsum h' = tsum h := by
 unfold tsum
 rw [e 0 (by decide) (by decide), e 1 (by decide) (by decide), e 2 (by decide) (by decide), e 3 (by decide) (by decide), e 4 (by decide) (by decide), e 5 (by decide) (by decide), e 6 (by decide) (by decide), e 7 (by decide) (by decide), e 8 (by decide) (by decide), e 9 (by decide) (by decide)]
theorem tsum_le {h : Int → Int} {b : Int} (e : ∀ t, 0 ≤ h t ∧ h t ≤ b) : 0 ≤ tsum h ∧ tsum h ≤ 10 * b := by
 unfold tsum
 have := e 0; have := e 1; have := e 2; have := e 3; have := e 4; have := e 5; have := e 6; have := e 7; have := e 8; have := e 9
 omega
/-- One report more is read. -/
def stG (film week : Int) (s : Option S55 × (Int → Option S55)) (r : S55) : Option S55 × (Int → Option S55) :=
 if r.f2 ≠ film ∨ r.f3 ≠ week then s else if r.f1 = 2 then (some r, s.2) else (s.1, upd s.2 r.f4 r)
def fG (film week : Int) (l : List S55) : Option S55 × (Int → Option S55) := l.foldl (stG film week) (none, fun _ => none)
theorem fG_snoc (film week : Int) (l : List S55) (r : S55) : fG film week (l ++ [r]) = stG film week (fG film week l) r := by unfold fG; rw [List.foldl_append]; rfl
theorem fG_step {film week : Int} {l : List S55} {i : Nat} {r : S55} (h : l[i]? = some r) : fG film week (l.take (i + 1)) = stG film week (fG film week (l.take i)) r := by rw [take_one h, fG_snoc]
def cen (f : Int → Option S55) (t : Int) : Int := ((f t).map (·.f5)).getD 0
def groG (s : Option S55 × (Int → Option S55)) : Int := match s.1 with
 | some r => r.f5
 | none => tsum (cen s.2)
def grossV (rs : List S55) (film week : Int) : Int := groG (fG film week (cpt (srt rs)))
/-- The tills and cents are within their bounds. -/
def Tl (r : S55) : Prop := inR r.f4 0 9 ∧ inR r.f5 0 10000000
theorem fG_ok {film week : Int} {l : List S55} (h : ∀ r ∈ l, Tl r) : (∀ r, (fG film week l).1 = some r → Tl r) ∧ ∀ t r, (fG film week l).2 t = some r → Tl r ∧ r.f4 = t := by
 have : ∀ n, n ≤ l.length → (∀ r, (fG film week (l.take n)).1 = some r → Tl r) ∧ ∀ t r, (fG film week (l.take n)).2 t = some r → Tl r ∧ r.f4 = t := by
  intro n
  induction n with
  | zero => intro _; exact ⟨fun r h => by simp [fG] at h, fun t r h => by simp [fG] at h⟩
  | succ n ih =>
   intro hn
   obtain ⟨x, hx⟩ := get_ex (show n < l.length by omega)
   obtain ⟨i1, i2⟩ := ih (by omega)
   have hT := h x (mem_of hx)
   rw [fG_step hx]
   unfold stG
   split
   ·exact ⟨i1, i2⟩
   ·split
    ·exact ⟨fun r hr => by injection hr with hr; subst hr; exact hT, i2⟩
    ·refine ⟨i1, fun t r hr => ?_⟩
     unfold upd at hr
     dsimp only at hr
     split at hr
     ·next q => injection hr with hr; subst hr; exact ⟨hT, q.symm⟩
     ·exact i2 t r hr
 have := this l.length (Nat.le_refl _)
 rw [List.take_length] at this
 exact this
theorem groG_le {film week : Int} {l : List S55} (h : ∀ r ∈ l, Tl r) : 0 ≤ groG (fG film week l) ∧ groG (fG film week l) ≤ 100000000 := by
 obtain ⟨h1, h2⟩ := fG_ok (film := film) (week := week) h
 unfold groG
 split
 ·next r hr =>
  have := (h1 r hr).2
  unfold inR at this
  omega
 ·have := tsum_le (h := cen (fG film week l).2) (b := 10000000) fun t => by
   unfold cen
   cases q : (fG film week l).2 t with
   | none => simp
   | some r =>
    have := (h2 t r q).1.2
    unfold inR at this
    simpa using this
  omega
theorem swp_mem {l : List S55} {j : Nat} (hj : j + 1 < l.length) {x : S55} (hx : x ∈ swp l j) : x ∈ l := by
 obtain ⟨a, ha⟩ := get_ex (show j < l.length by omega)
 obtain ⟨b, hb⟩ := get_ex hj
 unfold swp at hx
 rw [getD_el ha, getD_el hb] at hx
 rcases mem_set hx with hx | rfl
 ·rcases mem_set hx with hx | rfl
  ·exact hx
  ·exact mem_of ha
 ·exact mem_of hb
theorem down_mem : ∀ (j : Nat) {l : List S55}, j < l.length → ∀ {x : S55}, x ∈ down l j → x ∈ l
 | 0, l, _, x, h => h
 | j + 1, l, hj, x, h => by
  unfold down at h
  split at h
  ·exact swp_mem hj (down_mem j (by rw [swp_len]; omega) h)
  ·exact h
theorem insT_mem {l : List S55} : ∀ (n : Nat), n < l.length → ∀ {x : S55}, x ∈ insT l n → x ∈ l
 | 0, _, x, h => h
 | n + 1, hn, x, h => insT_mem n (by omega) (down_mem (n + 1) (by rw [insT_len]; exact hn) h)
theorem srt_mem {l : List S55} {x : S55} (h : x ∈ srt l) : x ∈ l := by
 by_cases h0 : l.length = 0
 ·have : l = [] := List.length_eq_zero_iff.mp h0
  subst this
  exact h
 ·exact insT_mem (l.length - 1) (by omega) h
/-! ### The account -/
def prt (c : S36) (week net : Int) : Int := c.f4.foldl (fun p t => if t.f0 ≤ net then mx p t.f1 else p) (c.f3.getD (mn (week - c.f1) (c.f3.length - 1)).toNat 0)
def txV (tax gross : Int) : Int := gross * tax / 1000
def stepV (c : S36) (week net : Int) : Int := net * prt c week net / 1000
def nutV (c : S36) (net : Int) : Int := mx 0 (net - c.f5) * c.f6 / 1000
def mostV (c : S36) (week net : Int) : Int := mx (mx (stepV c week net) (nutV c net)) c.f7
def accN (c : S36) (week gross tx : Int) : Ac := ⟨gross, tx, gross - tx, mn (gross - tx) (mostV c week (gross - tx)), gross - tx - mn (gross - tx) (mostV c week (gross - tx)),
 1 + (if stepV c week (gross - tx) = mostV c week (gross - tx) then 0 else if nutV c (gross - tx) = mostV c week (gross - tx) then 1 else 2)⟩
def accV (tax : Int) (c : S36) (week gross : Int) : Ac := accN c week gross (txV tax gross)
theorem mx_ge (a b : Int) : a ≤ mx a b ∧ b ≤ mx a b ∧ (mx a b = a ∨ mx a b = b) := by unfold mx; split <;> omega
theorem mn_le (a b : Int) : mn a b ≤ a ∧ mn a b ≤ b ∧ (mn a b = a ∨ mn a b = b) := by unfold mn; split <;> omega
theorem tdiv_1000 {x : Int} (h : 0 ≤ x) : x.tdiv 1000 = x / 1000 := Int.tdiv_eq_ediv_of_nonneg h
theorem prt_go {net : Int} : ∀ (l : List S86) (p : Int), 0 ≤ p ∧ p ≤ 1000 → (∀ t ∈ l, 0 ≤ t.f1 ∧ t.f1 ≤ 1000) → 0 ≤ l.foldl (fun p t => if t.f0 ≤ net then mx p t.f1 else p) p ∧ l.foldl (fun p t => if t.f0 ≤ net then mx p t.f1 else p) p ≤ 1000
 | [], p, h, _ => h
 | t :: l, p, h, k => by
  rw [List.foldl_cons]
  refine prt_go l _ ?_ fun t' ht => k t' (List.mem_cons_of_mem _ ht)
  split
  ·have := k t List.mem_cons_self
   have := mx_ge p t.f1
   omega
  ·exact h
theorem fold_one {net p : Int} {l : List S86} {i : Nat} {t : S86} (h : l[i]? = some t) : (l.take (i + 1)).foldl (fun p t => if t.f0 ≤ net then mx p t.f1 else p) p = if t.f0 ≤ net then mx ((l.take i).foldl (fun p t => if t.f0 ≤ net then mx p t.f1 else p) p) t.f1 else (l.take i).foldl (fun p t => if t.f0 ≤ net then mx p t.f1 else p) p := by
 rw [take_one h, List.foldl_append]
 rfl
theorem tx_le {tax gross : Int} (ht : 0 ≤ tax ∧ tax ≤ 500) (hg : 0 ≤ gross ∧ gross ≤ 100000000) : (0 ≤ gross * tax ∧ gross * tax ≤ 100000000 * 500) ∧ 0 ≤ txV tax gross ∧ txV tax gross ≤ gross := by
 have h1 := mul_small hg.1 hg.2 ht.1 ht.2
 have h2 : gross * tax ≤ gross * 500 := Int.mul_le_mul_of_nonneg_left ht.2 hg.1
 unfold txV
 omega
end Go.Proofs.Ytkjefnlhhfpllaa.T
namespace Go.Proofs.Ytkjefnlhhfpllaa.T
open Go.RowKit Go.Proofs.YtkjefnlhhfpllaaW.PrintWords Go.Proofs.YtkjefnlhhfpllaaW.PrintMore
open Go.Proofs.Ytkjefnlhhfpllaa.P
set_option linter.unusedVariables false
set_option linter.unusedSimpArgs false

open Go.Proofs.Ytkjefnlhhfpllaa.E (Mf MfI MfJ KeyT upd)
set_option maxRecDepth 100000 in
theorem eqNil92 (A : Option Addr) (W : World) : (Op.equal 92 (.pointer A) (.pointer none)).run Try.prog W = .ok A.isNone W := by
 have hu92 := Try.underlying92
 unfold Op.equal Op.maxDepth
 rw [show (10000 : Nat) = 9999 + 1 from rfl]
 cases A <;> (unfold Op.equalIn; go_simp)
abbrev evI (n : Int) : Value := .int .i64 n
abbrev evR (x : S55) : Value := .agg #[.int .i64 x.f0, .int .i64 x.f1, .int .i64 x.f2, .int .i64 x.f3, .int .i64 x.f4, .int .i64 x.f5]
theorem kT3 : KeyT Try.prog 3 evI := KeyT.int Try.underlying3
/-- A pointer to the last audit. -/
def audP : Option (Nat × S55) → Value
 | none => .pointer none
 | some (g, _) => .pointer (some ⟨g, 0, none⟩)
/-- What the loop knows: the map of the tills, the audit's block. -/
structure GS (w : World) (gm : Nat) (s : Option S55 × (Int → Option S55)) (pa : Option (Nat × S55)) : Prop where
 m : Mf evI evR w gm s.2
 a : pa.map (·.2) = s.1
 b : ∀ g r, pa = some (g, r) → w.heap[g]? = some (.cells #[.int .i64 r.f0, .int .i64 r.f1, .int .i64 r.f2, .int .i64 r.f3, .int .i64 r.f4, .int .i64 r.f5] 55 (0, 0))
theorem GS.below {w w' : World} {gm : Nat} {s : Option S55 × (Int → Option S55)} {pa : Option (Nat × S55)} (h : GS w gm s pa) (l : Below w.heap.size w w') : GS w' gm s pa := ⟨h.m.below l, h.a, fun g r e => blk_below (h.b g r e) l⟩
theorem GS.put {w w' : World} {gm : Nat} {s : Option S55 × (Int → Option S55)} {pa : Option (Nat × S55)} {t : Int} {r : S55} (h : GS w gm s pa) (m : Mf evI evR w' gm (upd s.2 t r)) (l : w.grownBy w' (some gm)) : GS w' gm (s.1, upd s.2 t r) pa := ⟨m, h.a, fun g r' e => blk_grown (h.b g r' e) l (E.nes fun q => by
 obtain ⟨es, cl, l0, h1, _⟩ := h.m
 have := h.b g r' e
 rw [q, h1] at this
 cases this)⟩
theorem C_map {w w' : World} {l : List S55} {A : Option Addr} {n gm : Nat} {f : Int → Option S55} (h : Kd.C k55 w A n l) (hm : Mf evI evR w gm f) (g : w.grownBy w' (some gm)) : Kd.C k55 w' A n l := by
 obtain ⟨h1, h2, h3⟩ := h
 refine ⟨h1, h2, fun hn => ?_⟩
 obtain ⟨ad, e, hr⟩ := h3 hn
 refine ⟨ad, e, fun j x hx => ?_⟩
 obtain ⟨cs, q1, q2, q3⟩ := hr j x hx
 refine ⟨cs, q1, by rw [k55_open q2]; exact k55_mk _ _, fun i u hu => ?_⟩
 have hc := q3 i u hu
 refine cell_grown g hc fun q => ?_
 injection q with q
 obtain ⟨es, cl, l0, h4, _⟩ := hm
 unfold World.cell? at hc
 rw [q, h4] at hc
 cases hc
/-- A sum over those tills that have been seen. -/
def ssum (f : Int → Option S55) (S : List Int) : Int := tsum fun t => if t ∈ S then cen f t else 0
theorem ssum_add {f : Int → Option S55} {S : List Int} {x : Int} {r : S55} (hx : 0 ≤ x ∧ x ≤ 9) (hf : f x = some r) (hn : x ∉ S) : ssum f (S ++ [x]) = ssum f S + r.f5 := by
 unfold ssum
 refine tsum_add hx fun t => ?_
 by_cases q : t = x
 ·subst q
  simp [hn, cen, hf]
 ·simp [q]
theorem ssum_le {f : Int → Option S55} (h : ∀ t r, f t = some r → Tl r ∧ r.f4 = t) (S : List Int) : 0 ≤ ssum f S ∧ ssum f S ≤ 100000000 := by
 have := tsum_le (h := fun t => if t ∈ S then cen f t else 0) (b := 10000000) fun t => by
  split
  ·unfold cen
   cases q : f t with
   | none => simp
   | some r =>
    have := (h t r q).1.2
    unfold inR at this
    simpa using this
  ·omega
 unfold ssum
 omega
theorem ssum_all {f : Int → Option S55} {S : List Int} (h : ∀ x v, f x = some v → x ∈ S) : ssum f S = tsum (cen f) := by
 refine (tsum_congr fun t _ _ => ?_)
 split
 ·rfl
 ·next q =>
  unfold cen
  cases e : f t with
  | none => rfl
  | some v => exact absurd (h t v e) q
set_option maxRecDepth 100000 in
set_option maxHeartbeats 8000000 in

theorem gross_s (V : Bk) (m : Ba) (film week : Int) (w : World) (hr : Kd.C k55 w m.B V.rs.length V.rs) (h0 : 0 < V.rs.length) (hn : V.rs.length ≤ 19) (hid : Idr V.rs) (hok : OnOk (srt V.rs)) (hT : ∀ r ∈ V.rs, Tl r) :
  Calls Try.prog 25 #[bv V m, .int .i64 film, .int .i64 week] w fun e w' => e = .returned (.int .i64 (grossV V.rs film week)) ∧ Below w.heap.size w w' := by
 have hu3 := Try.underlying3
 have hu27 := Try.underlying27
 have hu29 := Try.underlying29
 have hu55 := Try.underlying55
 have hu91 := Try.underlying91
 have hu92 := Try.underlying92
 obtain ⟨z3, o3⟩ := info_some info3s (by decide)
 obtain ⟨z27, o27⟩ := info_some info27s (by decide)
 obtain ⟨z55, o55⟩ := info_some info55s (by decide)
 have hsl : (srt V.rs).length = V.rs.length := insT_len _ _
 have hcl := cpt_len (srt V.rs)
 have hTl : ∀ r ∈ (cpt (srt V.rs)), Tl r := fun r hr => hT r (srt_mem (cpt_mem hr))
 refine E.enter (N := 66) Try.func25 rfl Try.ntmps25 (args := [bv V m, .int .i64 film, .int .i64 week]) (by simp) ?_
 have L := Below.refl w.heap.size w
 refine E.cs (E.cl ?_)
 refine E.GL.st rfl rfl rfl (E.ST.box rfl rfl fun g3 w3 e3 b3 l3 => ?_)
 have h3_L : w.heap.size ≤ g3 := by rw [e3]; exact L.size
 replace L := below_step L l3
 refine E.ga rfl rfl rfl (E.gd (E.qc (E.cs (E.cl ?_))))
 have Lm := L
 refine E.GL.st rfl rfl rfl (E.ST.makeMap evI evR rfl fun g16 w16 e16 gm l16 => ?_)
 replace L := below_step L l16
 replace b3 := blk_below b3 l16
 refine E.ga rfl rfl rfl (E.gd (E.qc (E.cs (E.cl (E.ga rfl rfl rfl (E.gd (E.qc (E.cs (E.cl ?_)))))))))
 refine E.gr rfl (E.Runs.fieldAddr rfl rfl hu29 rfl (by assumption) rfl) ?_
 refine E.gr rfl (E.Runs.load1 rfl rfl hu27 rfl (by first | assumption | exact E.blkc (by assumption) rfl | exact pw_cell_below L (by assumption))) ?_
 refine E.GL.st rfl rfl rfl (E.ST.call rfl ent36 (E.evc rfl E.evn) ((once_s _ V.rs m.B m.b (Kd.C_below hr L) h0 hn hid hok).mono ?_))
 rintro e w20 ⟨A3, c3, rfl, hC, l20⟩
 refine ⟨_, rfl, ?_⟩
 replace b3 := blk_below b3 l20
 replace L := below_step L l20
 replace gm := gm.below l20
 refine E.gm rfl rfl rfl (E.gr rfl (E.Runs.extract rfl rfl rfl) ?_)
 refine E.gr rfl (E.Runs.extract rfl rfl rfl) ?_
 refine E.ga rfl rfl rfl (E.ga rfl rfl rfl (E.gd (E.qc (E.cs (E.cs ?_)))))
 have hgm : w.heap.size ≤ g16 := by rw [e16]; exact Lm.size
 have G0 : GS _ g16 (fG film week ((cpt (srt V.rs)).take 0)) none := ⟨gm, rfl, fun g r e => by cases e⟩
 have L4 := L
 refine E.cl (E.gm rfl rfl rfl (E.gr rfl (E.Runs.len rfl rfl hu27) ?_))
 refine E.gm rfl rfl rfl (E.gd (E.qc (E.CG.block ?_)))
 have s5_b3 := b3
 have s5_L := L
 refine E.CG.loop2 (fun (i : Nat) (pa : Option (Nat × S55)) => [(1, .int .i64 film), (2, .int .i64 week), (7, .map (some g16)), (8, audP pa), (23, .slice A3 (cpt (srt V.rs)).length c3), (24, .int .i64 ((cpt (srt V.rs)).length : Int)), (25, .int .i64 i)]) (fun i pa w' => i ≤ (cpt (srt V.rs)).length ∧ GS w' g16 (fG film week ((cpt (srt V.rs)).take i)) pa ∧ Kd.C k55 w' A3 (cpt (srt V.rs)).length (cpt (srt V.rs)) ∧ Below w.heap.size w w') (fun i pa => (cpt (srt V.rs)).length - i) 0 none (E.subc rfl (E.subc rfl (E.subc rfl (E.subc rfl (E.subc rfl (E.subc rfl (E.subc rfl E.subn))))))) ⟨Nat.zero_le _, G0, hC, L⟩ ?_
 rintro i pa w5 ⟨hi, G, hC, L⟩
 refine E.cs (E.cl ?_)
 refine E.GL.cmp rfl rfl rfl (fun _ h => (E.Runs.lss rfl rfl rfl h)) (fun h26 => ?_) (fun h26 => ?_)
 ·obtain ⟨x, hx⟩ := get_ex (show i < (cpt (srt V.rs)).length by omega)
  obtain ⟨ad, eA, X⟩ := rep_at hC hx
  have hstp := fG_step (film := film) (week := week) hx
  refine E.gd (E.qc (E.cs (E.CG.cond_t rfl (E.CG.skip (E.qc (E.cs (E.CG.block (E.cs (E.cl ?_)))))))))
  refine E.gr rfl (E.Runs.indexAddrA (i := i) rfl rfl rfl hu27 z55 o55 (by omega) eA rfl) ?_
  refine E.gr rfl (E.Runs.loads (cs := [.int .i64 x.f0, .int .i64 x.f1, .int .i64 x.f2, .int .i64 x.f3, .int .i64 x.f4, .int .i64 x.f5]) rfl rfl hu55 rfl info55s (fun j v hv => X j v hv)) ?_
  refine E.GL.st rfl rfl rfl (E.ST.alloc rfl info55z fun g12 w12 e12 b12 l12 => ?_)
  have h12_L : w.heap.size ≤ g12 := by rw [e12]; exact L.size
  replace L := below_step L l12
  refine E.GL.store_whole rfl rfl rfl rfl rfl b12 rfl info55s (rep_one _) fun wS6_3 c12 lS6_3 => ?_
  replace L := E.below_own L h12_L lS6_3
  replace b12 := c12
  clear c12
  have hbw := E.below_own l12 (by rw [e12]; exact Nat.le_refl _) lS6_3
  replace G := G.below hbw
  replace hC := Kd.C_below hC hbw
  refine E.gd (E.qc (E.CG.block (E.cs (E.cl (E.gr rfl (E.Runs.fieldAddr rfl rfl hu55 rfl (by assumption) rfl) ?_)))))
  refine E.gr rfl (E.Runs.load rfl rfl hu3 (by first | assumption | exact E.blkc (by assumption) rfl | exact pw_cell_below L (by assumption))) ?_
  refine E.gm rfl rfl rfl ?_
  refine E.GL.cmpn rfl rfl rfl (fun _ h => (E.Runs.neq rfl rfl rfl h)) (fun h37 => ?_) (fun h37 => ?_)
  ·rw [show stG film week _ x = _ from if_pos (.inl h37)] at hstp
   have G2 := hstp ▸ G
   refine E.gm rfl rfl rfl (E.gk rfl (E.gk rfl (E.gk rfl (E.gk rfl (E.gt rfl rfl rfl rfl (E.ga rfl rfl rfl (E.gd (E.qc (E.CG.cond_t rfl ?_)))))))))
   refine E.CG.skip (E.QG.block_normal (E.QG.block_normal (E.qc (E.cl (E.gr rfl (E.Runs.add rfl rfl rfl (IntWalk.i64_in _ (by omega))) ?_)))))
   refine E.gm rfl rfl rfl (E.gd ?_)
   exact E.QG.round2 (d := none) (i + 1) _ (E.subc rfl (E.subc rfl (E.subc rfl (E.subc rfl (E.subc rfl (E.subc rfl (E.subc rfl E.subn))))))) ⟨by omega, G2, hC, L⟩ (by omega)
  ·refine E.gm rfl rfl rfl (E.gr rfl (E.Runs.fieldAddr rfl rfl hu55 rfl (by assumption) rfl) ?_)
   refine E.gr rfl (E.Runs.load rfl rfl hu3 (by first | assumption | exact E.blkc (by assumption) rfl | exact pw_cell_below L (by assumption))) ?_
   refine E.gm rfl rfl rfl ?_
   refine E.GL.cmpn rfl rfl rfl (fun _ h => (E.Runs.neq rfl rfl rfl h)) (fun h42 => ?_) (fun h42 => ?_)
   ·rw [show stG film week _ x = _ from if_pos (.inr h42)] at hstp
    have G2 := hstp ▸ G
    refine E.gr rfl (E.Runs.pick_f rfl rfl rfl) ?_
    refine E.ga rfl rfl rfl (E.gd (E.qc (E.CG.cond_t rfl (E.CG.skip (E.QG.block_normal (E.QG.block_normal (E.qc (E.cl (E.gr rfl (E.Runs.add rfl rfl rfl (IntWalk.i64_in _ (by omega))) ?_)))))))))
    refine E.gm rfl rfl rfl (E.gd ?_)
    exact E.QG.round2 (d := none) (i + 1) _ (E.subc rfl (E.subc rfl (E.subc rfl (E.subc rfl (E.subc rfl (E.subc rfl (E.subc rfl E.subn))))))) ⟨by omega, G2, hC, L⟩ (by omega)
   ·rw [show stG film week _ x = (if x.f1 = 2 then _ else _) from if_neg (by omega)] at hstp
    refine E.gr rfl (E.Runs.pick_f rfl rfl rfl) ?_
    refine E.ga rfl rfl rfl (E.gd (E.qc (E.CG.cond_f rfl (E.cs (E.cl (E.gr rfl (E.Runs.fieldAddr rfl rfl hu55 rfl (by assumption) rfl) ?_))))))
    refine E.gr rfl (E.Runs.load rfl rfl hu3 (by first | assumption | exact E.blkc (by assumption) rfl | exact pw_cell_below L (by assumption))) ?_
    refine E.GL.cmp rfl rfl rfl (fun _ h => (E.Runs.eql rfl rfl rfl h)) (fun h47 => ?_) (fun h47 => ?_)
    ·rw [if_pos h47] at hstp
     have G2 : GS _ g16 _ (some (g12, x)) := hstp ▸ (⟨G.m, rfl, fun g r e => by injection e with e; injection e with e1 e2; subst e1; subst e2; exact b12⟩ : GS _ g16 (some x, (fG film week ((cpt (srt V.rs)).take i)).2) (some (g12, x)))
     refine E.ga rfl rfl rfl (E.gd (E.qc (E.CG.cond_t rfl (E.cl (E.ga rfl rfl rfl (E.gd (E.QG.block_normal (E.QG.block_normal (E.qc ?_)))))))))
     refine E.cl (E.gr rfl (E.Runs.add rfl rfl rfl (IntWalk.i64_in _ (by omega))) ?_)
     refine E.gm rfl rfl rfl (E.gd ?_)
     exact E.QG.round2 (d := none) (i + 1) (some (g12, x)) (E.subc rfl (E.subc rfl (E.subc rfl (E.subc rfl (E.subc rfl (E.subc rfl (E.subc rfl E.subn))))))) ⟨by omega, G2, hC, L⟩ (by omega)
    ·rw [if_neg h47] at hstp
     refine E.ga rfl rfl rfl (E.gd (E.qc (E.CG.cond_f rfl (E.cl (E.gm rfl rfl rfl (E.gr rfl (E.Runs.fieldAddr rfl rfl hu55 rfl (by assumption) rfl) ?_))))))
     refine E.gr rfl (E.Runs.load rfl rfl hu3 (by first | assumption | exact E.blkc (by assumption) rfl | exact pw_cell_below L (by assumption))) ?_
     refine E.gr rfl (E.Runs.loads (cs := [.int .i64 x.f0, .int .i64 x.f1, .int .i64 x.f2, .int .i64 x.f3, .int .i64 x.f4, .int .i64 x.f5]) rfl rfl hu55 rfl info55s (blk_cells b12)) ?_
     refine E.GL.sn rfl rfl (E.ST.mapUpdate (ev := evR) (v := x) rfl rfl kT3 x.f4 rfl rfl hu91 G.m fun wQ mQ lQ => ?_)
     replace hC := C_map hC G.m lQ
     replace G := G.put mQ lQ
     have G2 := hstp ▸ G
     replace L := E.below_own L hgm lQ
     refine E.gd (E.QG.block_normal (E.QG.block_normal (E.qc (E.cl (E.gr rfl (E.Runs.add rfl rfl rfl (IntWalk.i64_in _ (by omega))) ?_)))))
     refine E.gm rfl rfl rfl (E.gd ?_)
     exact E.QG.round2 (d := none) (i + 1) _ (E.subc rfl (E.subc rfl (E.subc rfl (E.subc rfl (E.subc rfl (E.subc rfl (E.subc rfl E.subn))))))) ⟨by omega, G2, hC, L⟩ (by omega)
 ·have hil : i = (cpt (srt V.rs)).length := by omega
  rw [hil, List.take_of_length_le (Nat.le_refl _)] at G
  obtain ⟨hok1, hok2⟩ := fG_ok (film := film) (week := week) hTl
  refine E.gd (E.qc (E.cs (E.CG.cond_f rfl (E.CG.exit (E.QG.pass_exit (E.QG.pass_exit (E.QG.block_here (E.qc (E.cs ?_)))))))))
  refine E.cs (E.cl (E.gm rfl rfl rfl ?_))
  rcases pa with _ | ⟨ga, ra⟩
  ·have hsn : (fG film week (cpt (srt V.rs))).1 = none := G.a.symm
   refine E.gr rfl (E.Runs.neqv rfl rfl rfl rfl (fun _ _ _ => rfl) (eqNil92 _) rfl) ?_
   refine E.gd (E.qc (E.CG.cond_f rfl (E.CG.skip (E.qc (E.cs (E.cl (E.ga rfl rfl rfl (E.gd (E.qc ?_)))))))))
   refine E.cs (E.cs (E.cl (E.gm rfl rfl rfl ?_)))
   refine E.GL.st rfl rfl rfl (E.ST.range rfl rfl hu91 G.m fun r56 w56 n56 e56 it56 l56 => ?_)
   have hr56 : w.heap.size ≤ r56 := by rw [e56]; exact L.size
   replace L := below_step L l56
   refine E.gd (E.qc (E.CG.block ?_))
   have s16_L := L
   refine E.CG.loop2 (fun (S : List Int) (n : Nat) => [(13, .int .i64 (ssum (fG film week (cpt (srt V.rs))).2 S)), (56, .pointer (some ⟨r56, 0, none⟩))]) (fun S n w' => MfI evI evR w' r56 g16 (fG film week (cpt (srt V.rs))).2 S n ∧ Below w.heap.size w w') (fun S n => n) [] n56 (E.subc rfl (E.subc rfl E.subn)) ⟨it56, L⟩ ?_
   rintro S n w16 ⟨hI, L⟩
   refine E.cs (E.cl ?_)
   refine E.GL.st rfl rfl rfl (E.ST.next rfl rfl kT3 hI (fun hall => ?_) (fun x v w57 n' hx hxS hn' it57 mJ l57 => ?_))
   ·refine E.gr rfl (E.Runs.extract rfl rfl rfl) ?_
    refine E.gd (E.qc (E.cs (E.CG.cond_f rfl (E.CG.exit (E.QG.pass_exit (E.QG.pass_exit (E.QG.block_here (E.qc (E.cs ?_)))))))))
    refine E.cl (E.gm rfl rfl rfl (E.ga rfl rfl rfl (E.gd (E.qc (E.CG.ret ?_)))))
    exact E.QG.result rfl rfl ⟨by unfold grossV groG; rw [hsn, ssum_all hall], L⟩
   ·replace L := E.below_own L hr56 l57
    obtain ⟨hv1, hv2⟩ := hok2 x v hx
    have hxr : 0 ≤ x ∧ x ≤ 9 := by have := hv1.1; unfold inR at this; omega
    have hadd := ssum_add hxr hx hxS
    have hle := ssum_le hok2 S
    have hvr := hv1.2
    unfold inR at hvr
    refine E.gr rfl (E.Runs.extract rfl rfl rfl) ?_
    refine E.gd (E.qc (E.cs (E.CG.cond_t rfl (E.CG.skip (E.qc (E.CG.block (E.cs (E.cl (E.gr rfl (E.Runs.entry rfl rfl mJ) ?_)))))))))
    refine E.gr rfl (E.Runs.extract rfl rfl rfl) ?_
    refine E.GL.st rfl rfl rfl (E.ST.alloc rfl info55z fun g15 w15 e15 b15 l15 => ?_)
    have h15_L : w.heap.size ≤ g15 := by rw [e15]; exact L.size
    replace L := below_step L l15
    refine E.GL.store_whole rfl rfl rfl rfl rfl b15 rfl info55s (rep_one _) fun wS17_3 c15 lS17_3 => ?_
    replace L := E.below_own L h15_L lS17_3
    replace b15 := c15
    clear c15
    replace it57 := it57.below (E.below_own l15 (by rw [e15]; exact Nat.le_refl _) lS17_3)
    refine E.gd (E.qc (E.cl (E.gm rfl rfl rfl (E.gr rfl (E.Runs.fieldAddr rfl rfl hu55 rfl (by assumption) rfl) ?_))))
    refine E.gr rfl (E.Runs.load rfl rfl hu3 (by first | assumption | exact E.blkc (by assumption) rfl | exact pw_cell_below L (by assumption))) ?_
    refine E.gr rfl (E.Runs.add rfl rfl rfl ((IntWalk.i64_in _ (by omega)).trans hadd.symm)) ?_
    refine E.ga rfl rfl rfl (E.gd (E.QG.block_normal ?_))
    exact E.QG.round2 (g := S) (d := n) (S ++ [x]) n' (E.subc rfl (E.subc rfl E.subn)) ⟨it57, L⟩ hn'
  ·have bA := G.b ga ra rfl
   have hsa : (fG film week (cpt (srt V.rs))).1 = some ra := G.a.symm
   refine E.gr rfl (E.Runs.neqv rfl rfl rfl rfl (fun _ _ _ => rfl) (eqNil92 _) rfl) ?_
   refine E.gd (E.qc (E.CG.cond_t rfl (E.cs (E.cl (E.gm rfl rfl rfl (E.gr rfl (E.Runs.nilCheck rfl rfl) ?_))))))
   refine E.gr rfl (E.Runs.fieldAddr rfl rfl hu55 rfl (by assumption) rfl) ?_
   refine E.gr rfl (E.Runs.load rfl rfl hu3 (by first | assumption | exact E.blkc (by assumption) rfl | exact pw_cell_below L (by assumption))) ?_
   refine E.ga rfl rfl rfl (E.gd (E.qc (E.CG.ret (E.QG.pass_ret ?_))))
   exact E.QG.result rfl rfl ⟨by unfold grossV groG; rw [hsa], L⟩

end Go.Proofs.Ytkjefnlhhfpllaa.T
namespace Go.Proofs.Ytkjefnlhhfpllaa.T
open Go.RowKit Go.Proofs.YtkjefnlhhfpllaaW.PrintWords Go.Proofs.YtkjefnlhhfpllaaW.PrintMore
open Go.Proofs.Ytkjefnlhhfpllaa.P
set_option linter.unusedVariables false
set_option linter.unusedSimpArgs false

def maxL (l : List Int) : Int := (l.drop 1).foldl mx (l.getD 0 0)
theorem max_step {l : List Int} {i : Nat} {x m : Int} (h : l[i]? = some x) (h1 : 1 ≤ i) : ((l.take (i + 1)).drop 1).foldl mx m = mx (((l.take i).drop 1).foldl mx m) x := by
 rw [take_one h, List.drop_append_of_le_length (by have := get_lt h; rw [List.length_take]; omega), List.foldl_append]
 rfl
/-- Where a number stands first. -/
def IdxL (l : List Int) (v r : Int) : Prop := r = -1 ∧ (∀ x ∈ l, x ≠ v) ∨ ∃ i : Nat, r = i ∧ l[i]? = some v ∧ ∀ j, j < i → ∀ x, l[j]? = some x → x ≠ v
theorem C_nums {w : World} {g t : Nat} (l : List Int) (hb : w.heap[g]? = some (.cells (l.map (Value.int .i64)).toArray t (0, 0))) (hn : l.length ≤ 1000000) : Kd.C kI w (some ⟨g, 0, none⟩) l.length l := by
 refine ⟨rfl, by omega, fun _ => ⟨_, rfl, ?_⟩⟩
 intro j p hj
 refine ⟨[.int .i64 p], rfl, rfl, fun i u hu => ?_⟩
 have hi : i = 0 := by have := (List.getElem?_eq_some_iff.1 hu).1; simpa using this
 subst hi
 rw [Addr.add_mid, Nat.zero_add, blk_cell hb]
 have : (l.map (Value.int .i64))[j]? = some u := by rw [List.getElem?_map, hj]; exact hu
 show (l.map (Value.int .i64)).toArray[j * 1 + 0]? = some u
 simpa using this
theorem info48s : (Try.prog.info? 48).map (·.size) = some 3 := by kernel_rfl
theorem info48z : (Try.prog.info? 48).map (·.zero) = some (some (.agg #[.int .i64 0, .int .i64 0, .int .i64 0])) := by kernel_rfl
theorem int3_one (a b c : Int) : (#[.int .i64 a, .int .i64 b, .int .i64 c] : Array Value).all (·.oneCell') = true := by simp [Value.oneCell']
set_option maxRecDepth 100000 in
theorem build57 (a b : Int) (W : World) : (Instr.build 57 #[(0, .int .i64 a), (1, .int .i64 b)]).run Try.prog W = .ok (.agg #[.int .i64 a, .int .i64 b, .int .i64 0, .int .i64 0, .int .i64 0, .int .i64 0]) W := by
 have hu3 := Try.underlying3
 have hu57 := Try.underlying57
 go_simp
set_option maxRecDepth 100000 in
theorem build48 (a b c : Int) (W : World) : (Instr.build 48 #[(0, .int .i64 a), (1, .int .i64 b), (2, .int .i64 c)]).run Try.prog W = .ok (.agg #[.int .i64 a, .int .i64 b, .int .i64 c]) W := by
 have hu3 := Try.underlying3
 have hu48 := Try.underlying48
 go_simp
theorem idx3 {s n f m r : Int} (h : IdxL [s, n, f] m r) (hm : m = mx (mx s n) f) : r = if s = m then 0 else if n = m then 1 else 2 := by
 rcases h with ⟨_, h⟩ | ⟨i, e, h1, h2⟩
 ·have q1 := h s (by simp)
  have q2 := h n (by simp)
  have q3 := h f (by simp)
  exfalso
  unfold mx at hm
  split at hm <;> (try split at hm) <;> omega
 ·match i, h1, h2 with
  | 0, h1, h2 => simp at h1; rw [if_pos h1]; exact e
  | 1, h1, h2 => simp at h1; rw [if_neg (h2 0 (by omega) s rfl), if_pos h1]; exact e
  | 2, h1, h2 => rw [if_neg (h2 0 (by omega) s rfl), if_neg (h2 1 (by omega) n rfl)]; exact e
  | i + 3, h1, h2 => simp at h1
set_option maxRecDepth 100000 in
set_option maxHeartbeats 8000000 in

theorem max34 (l : List Int) (A : Option Addr) (c : Nat) (w : World) (hr : Kd.C kI w A l.length l) (h0 : 0 < l.length) (hn : l.length ≤ 1000000) :
  Calls Try.prog 34 #[.slice A l.length c] w fun e w' => e = .returned (.int .i64 (maxL l)) ∧ Below w.heap.size w w' := by
 have hu3 := Try.underlying3
 have hu22 := Try.underlying22
 obtain ⟨z3, o3⟩ := info_some info3s (by decide)
 obtain ⟨x0, hx0⟩ := get_ex h0
 obtain ⟨ad0, eA0, X0⟩ := int_at hr hx0
 refine E.enter (N := 25) Try.func34 rfl Try.ntmps34 (args := [.slice A l.length c]) (by simp) ?_
 have L := Below.refl w.heap.size w
 refine E.cs (E.cl (E.ga rfl rfl rfl (E.gd (E.qc (E.cs (E.cs (E.cl (E.gm rfl rfl rfl (E.gr rfl (E.Runs.len rfl rfl hu22) ?_)))))))))
 refine E.gr rfl (E.Runs.lss rfl rfl rfl (decide_eq_false (by omega))) ?_
 refine E.gd (E.qc (E.CG.cond_f rfl (E.CG.skip (E.qc (E.cs (E.cl (E.gm rfl rfl rfl (E.gr rfl (E.Runs.indexAddrA (i := 0) rfl rfl rfl hu22 z3 o3 (by omega) eA0 rfl) ?_))))))))
 refine E.gr rfl (E.Runs.load rfl rfl hu3 (pw_cell_below L X0)) ?_
 refine E.ga rfl rfl rfl (E.gd (E.qc (E.cs (E.cs (E.cl (E.ga rfl rfl rfl (E.gd (E.qc (E.CG.block ?_)))))))))
 have s5_L := L
 refine E.CG.loop2 (fun (i : Nat) (m : Int) => [(0, .slice A l.length c), (3, .int .i64 m), (4, .int .i64 i)]) (fun i m w' => 1 ≤ i ∧ i ≤ l.length ∧ m = ((l.take i).drop 1).foldl mx x0 ∧ Below w.heap.size w w') (fun i m => l.length - i) 1 x0 (E.subc rfl (E.subc rfl (E.subc rfl E.subn))) ⟨Nat.le_refl _, by omega, (by cases l with | nil => simp at h0 | cons a t => simp), L⟩ ?_
 rintro i m w5 ⟨hi1, hi2, hm, L⟩
 refine E.cs (E.cs (E.cl (E.gm rfl rfl rfl (E.gm rfl rfl rfl (E.gr rfl (E.Runs.len rfl rfl hu22) ?_)))))
 refine E.GL.cmp rfl rfl rfl (fun _ h => (E.Runs.lss rfl rfl rfl h)) (fun h15 => ?_) (fun h15 => ?_)
 ·obtain ⟨x, hx⟩ := get_ex (show i < l.length by omega)
  obtain ⟨ad, eA, X⟩ := int_at hr hx
  refine E.gd (E.qc (E.CG.cond_t rfl (E.CG.skip (E.qc (E.cs (E.CG.block (E.cl (E.gm rfl rfl rfl (E.gm rfl rfl rfl ?_)))))))))
  refine E.gm rfl rfl rfl (E.gr rfl (E.Runs.indexAddrA (i := i) rfl rfl rfl hu22 z3 o3 (by omega) eA rfl) ?_)
  refine E.gr rfl (E.Runs.load rfl rfl hu3 (pw_cell_below L X)) ?_
  refine E.gr rfl (E.Runs.max rfl rfl rfl rfl) ?_
  refine E.ga rfl rfl rfl (E.gd (E.QG.block_normal (E.qc (E.cl (E.gm rfl rfl rfl (E.gr rfl (E.Runs.add rfl rfl rfl (IntWalk.i64_in _ (by omega))) ?_))))))
  refine E.ga rfl rfl rfl (E.gd ?_)
  exact E.QG.round2 (d := 0) (i + 1) _ (E.subc rfl (E.subc rfl (E.subc rfl E.subn))) ⟨by omega, by omega, (by rw [max_step hx hi1, hm]), L⟩ (by omega)
 ·have hil : i = l.length := by omega
  have hmx : m = maxL l := by rw [hm, hil, List.take_of_length_le (Nat.le_refl _)]; unfold maxL; rw [getD_el hx0]
  refine E.gd (E.qc (E.CG.cond_f rfl (E.CG.exit (E.QG.pass_exit (E.QG.pass_exit (E.QG.block_here (E.qc (E.cs (E.cl ?_)))))))))
  refine E.gm rfl rfl rfl (E.ga rfl rfl rfl (E.gd (E.qc (E.CG.ret ?_))))
  exact E.QG.result rfl rfl ⟨by rw [hmx], L⟩

set_option maxRecDepth 100000 in
set_option maxHeartbeats 8000000 in

theorem index35 (v : Int) (l : List Int) (A : Option Addr) (c : Nat) (w : World) (hr : Kd.C kI w A l.length l) (hn : l.length ≤ 1000000) :
  Calls Try.prog 35 #[.slice A l.length c, .int .i64 v] w fun e w' => ∃ r : Int, e = .returned (.int .i64 r) ∧ IdxL l v r ∧ Below w.heap.size w w' := by
 have hu3 := Try.underlying3
 have hu22 := Try.underlying22
 obtain ⟨z3, o3⟩ := info_some info3s (by decide)
 refine E.enter (N := 19) Try.func35 rfl Try.ntmps35 (args := [.slice A l.length c, .int .i64 v]) (by simp) ?_
 have L := Below.refl w.heap.size w
 refine E.cs (E.cl (E.ga rfl rfl rfl (E.gd (E.qc (E.cs (E.cs (E.cl (E.gm rfl rfl rfl (E.gr rfl (E.Runs.len rfl rfl hu22) ?_)))))))))
 refine E.gm rfl rfl rfl (E.gd (E.qc (E.CG.block ?_)))
 have s2_L := L
 refine E.CG.loop (fun (i : Nat) => [(0, .slice A l.length c), (1, .int .i64 v), (7, .int .i64 l.length), (8, .int .i64 i)]) (fun i w' => i ≤ l.length ∧ (∀ j, j < i → ∀ x, l[j]? = some x → x ≠ v) ∧ Below w.heap.size w w') (fun i => l.length - i) 0 (E.subc rfl (E.subc rfl (E.subc rfl (E.subc rfl E.subn)))) ⟨Nat.zero_le _, fun j hj => by omega, L⟩ ?_
 rintro i w2 ⟨hi, hok, L⟩
 refine E.cs (E.cl ?_)
 refine E.GL.cmp rfl rfl rfl (fun _ h => (E.Runs.lss rfl rfl rfl h)) (fun h9 => ?_) (fun h9 => ?_)
 ·obtain ⟨x, hx⟩ := get_ex (show i < l.length by omega)
  obtain ⟨ad, eA, X⟩ := int_at hr hx
  refine E.gd (E.qc (E.cs (E.CG.cond_t rfl (E.CG.skip (E.qc (E.cs (E.CG.block (E.cs (E.cl ?_)))))))))
  refine E.gm rfl rfl rfl (E.ga rfl rfl rfl (E.gd (E.qc (E.cs (E.cl (E.gm rfl rfl rfl (E.gm rfl rfl rfl (E.gm rfl rfl rfl (E.gr rfl (E.Runs.indexAddrA (i := i) rfl rfl rfl hu22 z3 o3 (by omega) eA rfl) ?_)))))))))
  refine E.gr rfl (E.Runs.load rfl rfl hu3 (pw_cell_below L X)) ?_
  refine E.GL.cmp rfl rfl rfl (fun _ h => (E.Runs.eql rfl rfl rfl h)) (fun h16 => ?_) (fun h16 => ?_)
  ·refine E.gd (E.qc (E.CG.cond_t rfl (E.cs (E.cl (E.gm rfl rfl rfl (E.ga rfl rfl rfl (E.gd (E.qc (E.CG.ret ?_)))))))))
   refine E.QG.block_ret (E.QG.pass_ret (E.QG.pass_ret (E.QG.block_ret (E.QG.pass_ret ?_))))
   exact E.QG.result rfl rfl ⟨_, rfl, .inr ⟨i, rfl, by rw [hx, h16], hok⟩, L⟩
  ·refine E.gd (E.qc (E.CG.cond_f rfl (E.CG.skip (E.QG.block_normal (E.qc (E.cl (E.gr rfl (E.Runs.add rfl rfl rfl (IntWalk.i64_in _ (by omega))) ?_)))))))
   refine E.gm rfl rfl rfl (E.gd ?_)
   exact E.QG.round (i + 1) (E.subc rfl (E.subc rfl (E.subc rfl (E.subc rfl E.subn)))) ⟨by omega, all_more hok hx (Ne.symm h16), L⟩ (by omega)
 ·refine E.gd (E.qc (E.cs (E.CG.cond_f rfl (E.CG.exit (E.QG.pass_exit (E.QG.pass_exit (E.QG.block_here (E.qc (E.cs ?_)))))))))
  refine E.cl (E.ga rfl rfl rfl (E.gd (E.qc (E.CG.ret ?_))))
  exact E.QG.result rfl rfl ⟨_, rfl, .inl ⟨rfl, all_done hok (by omega)⟩, L⟩

set_option maxRecDepth 100000 in
set_option maxHeartbeats 8000000 in

theorem account_s (tax : Int) (c : S36) (week gross : Int) (a3 a4 : Option Addr) (k3 k4 : Nat) (w : World) (hM : CM w c a3 k3 a4 k4) (ok : COk c) (ht : inR tax 0 500) (hw : inR week c.f1 c.f2) (hg : 0 ≤ gross ∧ gross ≤ 100000000) :
  Calls Try.prog 24 #[.int .i64 tax, .agg #[.int .i64 c.f0, .int .i64 c.f1, .int .i64 c.f2, .slice a3 c.f3.length k3, .slice a4 c.f4.length k4, .int .i64 c.f5, .int .i64 c.f6, .int .i64 c.f7, .int .i64 c.f8], .int .i64 week, .int .i64 gross] w fun e w' => e = .returned (.agg #[.int .i64 (accV tax c week gross).f0, .int .i64 (accV tax c week gross).f1, .int .i64 (accV tax c week gross).f2, .int .i64 (accV tax c week gross).f3, .int .i64 (accV tax c week gross).f4, .int .i64 (accV tax c week gross).f5]) ∧ Below w.heap.size w w' := by
 have hu3 := Try.underlying3
 have hu22 := Try.underlying22
 have hu34 := Try.underlying34
 have hu36 := Try.underlying36
 have hu48 := Try.underlying48
 have hu57 := Try.underlying57
 have hu86 := Try.underlying86
 obtain ⟨z3, o3⟩ := info_some info3s (by decide)
 obtain ⟨z22, o22⟩ := info_some info22s (by decide)
 obtain ⟨z34, o34⟩ := info_some info34s (by decide)
 obtain ⟨z36, o36⟩ := info_some info36s (by decide)
 obtain ⟨z57, o57⟩ := info_some info57s (by decide)
 obtain ⟨z86, o86⟩ := info_some info86s (by decide)
 obtain ⟨hn1, hn2, hn3, hn4, hn5, hn6, hn7, hn8, hn9, hn10⟩ := ok.n
 unfold inR at ht hw hn7 hn8 hn9
 obtain ⟨ht1, ht2, ht3⟩ := tx_le ht hg
 have hix : mn (week - c.f1) (c.f3.length - 1) = (((mn (week - c.f1) (c.f3.length - 1)).toNat : Nat) : Int) := by have := mn_le (week - c.f1) (c.f3.length - 1); omega
 have hixl : (mn (week - c.f1) (c.f3.length - 1)).toNat < c.f3.length := by have := mn_le (week - c.f1) (c.f3.length - 1); omega
 obtain ⟨st, hst⟩ := get_ex hixl
 have hstr := ok.st st (mem_of hst)
 obtain ⟨adS, eS, XS⟩ := int_at hM.s hst
 have htr : ∀ t ∈ c.f4, 0 ≤ t.f1 ∧ t.f1 ≤ 1000 := fun t q => by
  obtain ⟨j, hj⟩ := List.mem_iff_getElem?.mp q
  exact (ok.ti j t hj).2.1
 have hpr : prt c week (gross - txV tax gross) = c.f4.foldl (fun p t => if t.f0 ≤ (gross - txV tax gross) then mx p t.f1 else p) st := by unfold prt; rw [getD_el hst]
 have hpb := prt_go (net := (gross - txV tax gross)) c.f4 st hstr htr
 rw [← hpr] at hpb
 have hm1 := mul_small (x := (gross - txV tax gross)) (y := prt c week (gross - txV tax gross)) (a := 100000000) (b := 1000) (by omega) (by omega) (by omega) (by omega)
 have hmx := mx_ge 0 ((gross - txV tax gross) - c.f5)
 have hm2 := mul_small (x := mx 0 ((gross - txV tax gross) - c.f5)) (y := c.f6) (a := 100000000) (b := 1000) (by omega) (by omega) (by omega) (by omega)
 have hs1 : 0 ≤ (stepV c week (gross - txV tax gross)) ∧ (stepV c week (gross - txV tax gross)) ≤ 100000000 := by unfold stepV; omega
 have hs2 : 0 ≤ (nutV c (gross - txV tax gross)) ∧ (nutV c (gross - txV tax gross)) ≤ 100000000 := by unfold nutV; omega
 have hmo : maxL [(stepV c week (gross - txV tax gross)), (nutV c (gross - txV tax gross)), c.f7] = (mostV c week (gross - txV tax gross)) := rfl
 have hml := mn_le (gross - txV tax gross) (mostV c week (gross - txV tax gross))
 have hmg := mx_ge (stepV c week (gross - txV tax gross)) (nutV c (gross - txV tax gross))
 have hmg2 := mx_ge (mx (stepV c week (gross - txV tax gross)) (nutV c (gross - txV tax gross))) c.f7
 have hmd : (mostV c week (gross - txV tax gross)) = mx (mx (stepV c week (gross - txV tax gross)) (nutV c (gross - txV tax gross))) c.f7 := rfl
 refine E.enter (N := 93) Try.func24 rfl Try.ntmps24 (args := [.int .i64 tax, .agg #[.int .i64 c.f0, .int .i64 c.f1, .int .i64 c.f2, .slice a3 c.f3.length k3, .slice a4 c.f4.length k4, .int .i64 c.f5, .int .i64 c.f6, .int .i64 c.f7, .int .i64 c.f8], .int .i64 week, .int .i64 gross]) (by simp) ?_
 have L := Below.refl w.heap.size w
 refine E.cs (E.cl ?_)
 refine E.GL.st rfl rfl rfl (E.ST.box rfl rfl fun g5 w5 e5 b5 l5 => ?_)
 have h5_L : w.heap.size ≤ g5 := by rw [e5]; exact L.size
 replace L := below_step L l5
 refine E.GL.st rfl rfl rfl (E.ST.alloc rfl info57z fun g8 w8 e8 b8 l8 => ?_)
 have h8_L : w.heap.size ≤ g8 := by rw [e8]; exact L.size
 have n8_b5 : g5 ≠ g8 := by have := blk_lt b5; omega
 replace b5 := blk_below b5 l8
 replace L := below_step L l8
 refine E.gd (E.qc (E.cs (E.cl (E.gm rfl rfl rfl (E.gm rfl rfl rfl (E.gm rfl rfl rfl (E.gr rfl (E.Runs.mul rfl rfl rfl (IntWalk.i64_in _ (by omega))) ?_)))))))
 refine E.gr rfl (E.Runs.quo (r := (txV tax gross)) rfl rfl rfl (by decide) (by unfold txV; rw [tdiv_1000 ht1.1]; exact IntWalk.i64_in _ (by unfold txV at ht3; omega))) ?_
 refine E.gr rfl (E.Runs.build rfl (E.epc rfl (E.epc rfl E.epn)) (build57 _ _)) ?_
 refine E.GL.st rfl rfl rfl (E.ST.alloc rfl info57z fun g9 w9 e9 b9 l9 => ?_)
 have h9_L : w.heap.size ≤ g9 := by rw [e9]; exact L.size
 have n9_b5 : g5 ≠ g9 := by have := blk_lt b5; omega
 have n9_b8 : g8 ≠ g9 := by have := blk_lt b8; omega
 replace b5 := blk_below b5 l9
 replace b8 := blk_below b8 l9
 replace L := below_step L l9
 refine E.GL.store_whole rfl rfl rfl rfl rfl b9 rfl info57s (int6_one _ _ _ _ _ _) fun wS1_7 c9 lS1_7 => ?_
 replace b5 := blk_grown b5 lS1_7 (E.nes (by first | assumption | exact Ne.symm (by assumption)))
 replace b8 := blk_grown b8 lS1_7 (E.nes (by first | assumption | exact Ne.symm (by assumption)))
 replace L := E.below_own L h9_L lS1_7
 replace b9 := c9
 clear c9
 refine E.gd (E.qc (E.cs (E.cl (E.gr rfl (E.Runs.fieldAddr rfl rfl hu57 rfl (by assumption) rfl) ?_))))
 refine E.gr rfl (E.Runs.load rfl rfl hu3 (by first | assumption | exact E.blkc (by assumption) rfl | exact pw_cell_below L (by assumption))) ?_
 refine E.gr rfl (E.Runs.fieldAddr rfl rfl hu57 rfl (by assumption) rfl) ?_
 refine E.gr rfl (E.Runs.load rfl rfl hu3 (by first | assumption | exact E.blkc (by assumption) rfl | exact pw_cell_below L (by assumption))) ?_
 refine E.gr rfl (E.Runs.sub rfl rfl rfl (IntWalk.i64_in _ (by omega))) ?_
 refine E.gr rfl (E.Runs.fieldAddr rfl rfl hu57 rfl (by assumption) rfl) ?_
 refine E.GL.sn rfl rfl (E.ST.store rfl (by assumption) (by assumption) rfl rfl b9 rfl (show _ = #[.int .i64 gross, .int .i64 (txV tax gross), .int .i64 (gross - txV tax gross), .int .i64 0, .int .i64 0, .int .i64 0] from rfl) fun wS2_6 c9 lS2_6 => ?_)
 replace b5 := blk_grown b5 lS2_6 (E.nes (by first | assumption | exact Ne.symm (by assumption)))
 replace b8 := blk_grown b8 lS2_6 (E.nes (by first | assumption | exact Ne.symm (by assumption)))
 replace L := E.below_own L h9_L lS2_6
 replace b9 := c9
 clear c9
 refine E.gd (E.qc (E.cs (E.cl (E.gr rfl (E.Runs.fieldAddr rfl rfl hu36 rfl (by assumption) rfl) ?_))))
 refine E.gr rfl (E.Runs.load1 rfl rfl hu22 rfl (by first | assumption | exact E.blkc (by assumption) rfl | exact pw_cell_below L (by assumption))) ?_
 refine E.gm rfl rfl rfl (E.gr rfl (E.Runs.fieldAddr rfl rfl hu36 rfl (by assumption) rfl) ?_)
 refine E.gr rfl (E.Runs.load rfl rfl hu3 (by first | assumption | exact E.blkc (by assumption) rfl | exact pw_cell_below L (by assumption))) ?_
 refine E.gr rfl (E.Runs.sub rfl rfl rfl (IntWalk.i64_in _ (by omega))) ?_
 refine E.gr rfl (E.Runs.fieldAddr rfl rfl hu36 rfl (by assumption) rfl) ?_
 refine E.gr rfl (E.Runs.load1 rfl rfl hu22 rfl (by first | assumption | exact E.blkc (by assumption) rfl | exact pw_cell_below L (by assumption))) ?_
 refine E.gr rfl (E.Runs.len rfl rfl hu22) ?_
 refine E.gr rfl (E.Runs.sub rfl rfl rfl (IntWalk.i64_in _ (by omega))) ?_
 refine E.gr rfl (E.Runs.min rfl rfl rfl hix) ?_
 refine E.gr rfl (E.Runs.indexAddrA (i := (mn (week - c.f1) (c.f3.length - 1)).toNat) rfl rfl rfl hu22 z3 o3 (by omega) eS rfl) ?_
 refine E.gr rfl (E.Runs.load rfl rfl hu3 (pw_cell_below L XS)) ?_
 refine E.ga rfl rfl rfl (E.gd (E.qc (E.cs (E.cs (E.cl (E.gr rfl (E.Runs.fieldAddr rfl rfl hu36 rfl (by assumption) rfl) ?_))))))
 refine E.gr rfl (E.Runs.load1 rfl rfl hu34 rfl (by first | assumption | exact E.blkc (by assumption) rfl | exact pw_cell_below L (by assumption))) ?_
 refine E.gr rfl (E.Runs.len rfl rfl hu34) ?_
 refine E.gm rfl rfl rfl (E.gd (E.qc (E.CG.block ?_)))
 have s5_b5 := b5
 have s5_b8 := b8
 have s5_b9 := b9
 have s5_L := L
 refine E.CG.loop2 (fun (i : Nat) (p : Int) => [(5, .pointer (some ⟨g5, 0, none⟩)), (8, .pointer (some ⟨g8, 0, none⟩)), (9, .pointer (some ⟨g9, 0, none⟩)), (10, .int .i64 p), (40, .slice a4 c.f4.length k4), (41, .int .i64 c.f4.length), (42, .int .i64 i)]) (fun i p w' => i ≤ c.f4.length ∧ p = (c.f4.take i).foldl (fun p t => if t.f0 ≤ (gross - txV tax gross) then mx p t.f1 else p) st ∧ (w'.heap[g5]? = some (.cells #[.int .i64 c.f0, .int .i64 c.f1, .int .i64 c.f2, .slice a3 c.f3.length k3, .slice a4 c.f4.length k4, .int .i64 c.f5, .int .i64 c.f6, .int .i64 c.f7, .int .i64 c.f8] 36 (0, 0)) ∧ w'.heap[g8]? = some (.cells #[.int .i64 0, .int .i64 0, .int .i64 0, .int .i64 0, .int .i64 0, .int .i64 0] 57 (0, 0)) ∧ w'.heap[g9]? = some (.cells #[.int .i64 gross, .int .i64 (txV tax gross), .int .i64 (gross - txV tax gross), .int .i64 0, .int .i64 0, .int .i64 0] 57 (0, 0))) ∧ Below w.heap.size w w') (fun i p => c.f4.length - i) 0 st (E.subc rfl (E.subc rfl (E.subc rfl (E.subc rfl (E.subc rfl (E.subc rfl (E.subc rfl E.subn))))))) ⟨Nat.zero_le _, rfl, ⟨b5, b8, b9⟩, L⟩ ?_
 rintro i p w5 ⟨hi, hp, ⟨b5, b8, b9⟩, L⟩
 refine E.cs (E.cl ?_)
 refine E.GL.cmp rfl rfl rfl (fun _ h => (E.Runs.lss rfl rfl rfl h)) (fun h43 => ?_) (fun h43 => ?_)
 ·obtain ⟨t, htt⟩ := get_ex (show i < c.f4.length by omega)
  obtain ⟨ad, eA, X⟩ := tier_at hM.t htt
  have hfo := fold_one (net := (gross - txV tax gross)) (p := st) htt
  refine E.gd (E.qc (E.cs (E.CG.cond_t rfl (E.CG.skip (E.qc (E.cs (E.CG.block (E.cs (E.cl ?_)))))))))
  refine E.gr rfl (E.Runs.indexAddrA (i := i) rfl rfl rfl hu34 z86 o86 (by omega) eA rfl) ?_
  refine E.gr rfl (E.Runs.loads (cs := [.int .i64 t.f0, .int .i64 t.f1]) rfl rfl hu86 rfl info86s (fun j v hv => pw_cell_below L (X j v hv))) ?_
  refine E.GL.st rfl rfl rfl (E.ST.alloc rfl info86z fun g12 w12 e12 b12 l12 => ?_)
  have h12_L : w.heap.size ≤ g12 := by rw [e12]; exact L.size
  have n12_b5 : g5 ≠ g12 := by have := blk_lt b5; omega
  have n12_b8 : g8 ≠ g12 := by have := blk_lt b8; omega
  have n12_b9 : g9 ≠ g12 := by have := blk_lt b9; omega
  replace b5 := blk_below b5 l12
  replace b8 := blk_below b8 l12
  replace b9 := blk_below b9 l12
  replace L := below_step L l12
  refine E.GL.store_whole rfl rfl rfl rfl rfl b12 rfl info86s (tier_one _) fun wS6_3 c12 lS6_3 => ?_
  replace b5 := blk_grown b5 lS6_3 (E.nes (by first | assumption | exact Ne.symm (by assumption)))
  replace b8 := blk_grown b8 lS6_3 (E.nes (by first | assumption | exact Ne.symm (by assumption)))
  replace b9 := blk_grown b9 lS6_3 (E.nes (by first | assumption | exact Ne.symm (by assumption)))
  replace L := E.below_own L h12_L lS6_3
  replace b12 := c12
  clear c12
  refine E.gd (E.qc (E.cs (E.cl (E.gr rfl (E.Runs.fieldAddr rfl rfl hu86 rfl (by assumption) rfl) ?_))))
  refine E.gr rfl (E.Runs.load rfl rfl hu3 (by first | assumption | exact E.blkc (by assumption) rfl | exact pw_cell_below L (by assumption))) ?_
  refine E.gr rfl (E.Runs.fieldAddr rfl rfl hu57 rfl (by assumption) rfl) ?_
  refine E.gr rfl (E.Runs.load rfl rfl hu3 (by first | assumption | exact E.blkc (by assumption) rfl | exact pw_cell_below L (by assumption))) ?_
  refine E.GL.cmp rfl rfl rfl (fun _ h => (E.Runs.leq rfl rfl rfl h)) (fun h50 => ?_) (fun h50 => ?_)
  ·rw [if_pos h50] at hfo
   refine E.gd (E.qc (E.CG.cond_t rfl (E.cl (E.gm rfl rfl rfl (E.gr rfl (E.Runs.fieldAddr rfl rfl hu86 rfl (by assumption) rfl) ?_)))))
   refine E.gr rfl (E.Runs.load rfl rfl hu3 (by first | assumption | exact E.blkc (by assumption) rfl | exact pw_cell_below L (by assumption))) ?_
   refine E.gr rfl (E.Runs.max rfl rfl rfl rfl) ?_
   refine E.ga rfl rfl rfl (E.gd (E.QG.block_normal (E.qc (E.cl (E.gr rfl (E.Runs.add rfl rfl rfl (IntWalk.i64_in _ (by omega))) ?_)))))
   refine E.gm rfl rfl rfl (E.gd ?_)
   exact E.QG.round2 (d := 0) (i + 1) _ (E.subc rfl (E.subc rfl (E.subc rfl (E.subc rfl (E.subc rfl (E.subc rfl (E.subc rfl E.subn))))))) ⟨by omega, (by rw [hfo, ← hp]), ⟨b5, b8, b9⟩, L⟩ (by omega)
  ·rw [if_neg h50] at hfo
   refine E.gd (E.qc (E.CG.cond_f rfl (E.CG.skip (E.QG.block_normal (E.qc (E.cl (E.gr rfl (E.Runs.add rfl rfl rfl (IntWalk.i64_in _ (by omega))) ?_)))))))
   refine E.gm rfl rfl rfl (E.gd ?_)
   exact E.QG.round2 (d := 0) (i + 1) _ (E.subc rfl (E.subc rfl (E.subc rfl (E.subc rfl (E.subc rfl (E.subc rfl (E.subc rfl E.subn))))))) ⟨by omega, (by rw [hfo, ← hp]), ⟨b5, b8, b9⟩, L⟩ (by omega)
 ·obtain rfl : p = prt c week (gross - txV tax gross) := by rw [hp, hpr, List.take_of_length_le (by omega)]
  refine E.gd (E.qc (E.cs (E.CG.cond_f rfl (E.CG.exit (E.QG.pass_exit (E.QG.pass_exit (E.QG.block_here (E.qc (E.cs ?_)))))))))
  refine E.cl (E.gr rfl (E.Runs.fieldAddr rfl rfl hu57 rfl (by assumption) rfl) ?_)
  refine E.gr rfl (E.Runs.load rfl rfl hu3 (by first | assumption | exact E.blkc (by assumption) rfl | exact pw_cell_below L (by assumption))) ?_
  refine E.gm rfl rfl rfl (E.gr rfl (E.Runs.mul rfl rfl rfl (IntWalk.i64_in _ (by omega))) ?_)
  refine E.gr rfl (E.Runs.quo (r := (stepV c week (gross - txV tax gross))) rfl rfl rfl (by decide) (by unfold stepV; rw [tdiv_1000 hm1.1]; exact IntWalk.i64_in _ (by omega))) ?_
  refine E.gr rfl (E.Runs.fieldAddr rfl rfl hu57 rfl (by assumption) rfl) ?_
  refine E.gr rfl (E.Runs.load rfl rfl hu3 (by first | assumption | exact E.blkc (by assumption) rfl | exact pw_cell_below L (by assumption))) ?_
  refine E.gr rfl (E.Runs.fieldAddr rfl rfl hu36 rfl (by assumption) rfl) ?_
  refine E.gr rfl (E.Runs.load rfl rfl hu3 (by first | assumption | exact E.blkc (by assumption) rfl | exact pw_cell_below L (by assumption))) ?_
  refine E.gr rfl (E.Runs.sub rfl rfl rfl (IntWalk.i64_in _ (by omega))) ?_
  refine E.gr rfl (E.Runs.max rfl rfl rfl rfl) ?_
  refine E.gr rfl (E.Runs.fieldAddr rfl rfl hu36 rfl (by assumption) rfl) ?_
  refine E.gr rfl (E.Runs.load rfl rfl hu3 (by first | assumption | exact E.blkc (by assumption) rfl | exact pw_cell_below L (by assumption))) ?_
  refine E.gr rfl (E.Runs.mul rfl rfl rfl (IntWalk.i64_in _ (by omega))) ?_
  refine E.gr rfl (E.Runs.quo (r := (nutV c (gross - txV tax gross))) rfl rfl rfl (by decide) (by unfold nutV; rw [tdiv_1000 hm2.1]; exact IntWalk.i64_in _ (by omega))) ?_
  refine E.gr rfl (E.Runs.fieldAddr rfl rfl hu36 rfl (by assumption) rfl) ?_
  refine E.gr rfl (E.Runs.load rfl rfl hu3 (by first | assumption | exact E.blkc (by assumption) rfl | exact pw_cell_below L (by assumption))) ?_
  refine E.gr rfl (E.Runs.build rfl (E.epc rfl (E.epc rfl (E.epc rfl E.epn))) (build48 _ _ _)) ?_
  refine E.GL.st rfl rfl rfl (E.ST.alloc rfl info48z fun g13 w13 e13 b13 l13 => ?_)
  have h13_L : w.heap.size ≤ g13 := by rw [e13]; exact L.size
  have n13_b5 : g5 ≠ g13 := by have := blk_lt b5; omega
  have n13_b8 : g8 ≠ g13 := by have := blk_lt b8; omega
  have n13_b9 : g9 ≠ g13 := by have := blk_lt b9; omega
  replace b5 := blk_below b5 l13
  replace b8 := blk_below b8 l13
  replace b9 := blk_below b9 l13
  replace L := below_step L l13
  refine E.GL.store_whole rfl rfl rfl rfl rfl b13 rfl info48s (int3_one _ _ _) fun wS10_19 c13 lS10_19 => ?_
  replace b5 := blk_grown b5 lS10_19 (E.nes (by first | assumption | exact Ne.symm (by assumption)))
  replace b8 := blk_grown b8 lS10_19 (E.nes (by first | assumption | exact Ne.symm (by assumption)))
  replace b9 := blk_grown b9 lS10_19 (E.nes (by first | assumption | exact Ne.symm (by assumption)))
  replace L := E.below_own L h13_L lS10_19
  replace b13 := c13
  clear c13
  refine E.gd (E.qc (E.cs (E.CG.heldJ 6 (fun v W => v.grownBy W (none)) (fun _ _ => True) (by kernel_rfl) (by kernel_rfl) (fun v => World.grownBy.refl _ _) fun v11 lD => ?_)))
  replace b5 := blk_below b5 lD
  replace b8 := blk_below b8 lD
  replace b9 := blk_below b9 lD
  replace b13 := blk_below b13 lD
  replace L := below_step L lD
  have lD11 := lD
  clear lD
  have s_b5 := b5
  have s_b8 := b8
  have s_b9 := b9
  have s_b13 := b13
  have s_L := L
  have hh : v11.grownBy v11 (none) := World.grownBy.refl _ _
  refine E.GJ.take1 (i := 0) rfl (by kernel_rfl) (by kernel_rfl) (by kernel_rfl) (by kernel_rfl) rfl (by kernel_rfl) (by kernel_rfl) (by intro c a d v w h; first | (cases d <;> exact h) | exact nomatch (show _ ∧ _ from h).1) rfl rfl rfl (fun w' hS => (E.Runs.fieldAddr rfl rfl hu57 rfl (by assumption) rfl)) ?_
  refine E.GJ.take1 (i := 1) rfl (by kernel_rfl) (by kernel_rfl) (by kernel_rfl) (by kernel_rfl) rfl (by kernel_rfl) (by kernel_rfl) (by intro c a d v w h; first | (cases d <;> exact h) | exact nomatch (show _ ∧ _ from h).1) rfl rfl rfl (fun w' hS => (E.Runs.load rfl rfl hu3 (E.keeps hS (E.blkc b9 rfl) E.nen))) ?_
  refine E.GJ.take1 (i := 2) rfl (by kernel_rfl) (by kernel_rfl) (by kernel_rfl) (by kernel_rfl) rfl (by kernel_rfl) (by kernel_rfl) (by intro c a d v w h; first | (cases d <;> exact h) | exact nomatch (show _ ∧ _ from h).1) rfl rfl rfl (fun w' hS => (E.Runs.sliceArr rfl rfl hu48 z3 (by decide))) ?_
  refine E.GJ.one (i := 3) (by kernel_rfl) (E.OJ.st rfl rfl rfl rfl (E.ST.call rfl ent34 (E.evc rfl E.evn) ((max34 [(stepV c week (gross - txV tax gross)), (nutV c (gross - txV tax gross)), c.f7] (some ⟨g13, 0, none⟩) 3 _ (C_nums [(stepV c week (gross - txV tax gross)), (nutV c (gross - txV tax gross)), c.f7] b13 (by simp)) (by simp) (by simp)).mono ?_)))
  rintro e w77 ⟨rfl, l77⟩
  refine ⟨_, rfl, (E.SJ.before (by kernel_rfl)).mpr (hh.trans (E.gbB l77)), ?_⟩
  replace hh := hh.trans (E.gbB l77)
  replace b5 := blk_below b5 l77
  replace b8 := blk_below b8 l77
  replace b9 := blk_below b9 l77
  replace b13 := blk_below b13 l77
  replace L := below_step L l77
  refine E.GJ.take1 (i := 4) rfl (by kernel_rfl) (by kernel_rfl) (by kernel_rfl) (by kernel_rfl) rfl (by kernel_rfl) (by kernel_rfl) (by intro c a d v w h; first | (cases d <;> exact h) | exact nomatch (show _ ∧ _ from h).1) rfl rfl rfl (fun w' hS => (E.Runs.min rfl rfl rfl rfl)) ?_
  refine E.GJ.take1 (i := 5) rfl (by kernel_rfl) (by kernel_rfl) (by kernel_rfl) (by kernel_rfl) rfl (by kernel_rfl) (by kernel_rfl) (by intro c a d v w h; first | (cases d <;> exact h) | exact nomatch (show _ ∧ _ from h).1) rfl rfl rfl (fun w' hS => (E.Runs.fieldAddr rfl rfl hu57 rfl (by assumption) rfl)) ?_
  refine E.GJ.one (i := 6) (by kernel_rfl) (E.OJ.sn rfl rfl rfl (E.ST.store rfl (by assumption) (by assumption) rfl rfl b9 rfl (show _ = #[.int .i64 gross, .int .i64 (txV tax gross), .int .i64 (gross - txV tax gross), .int .i64 (mn (gross - txV tax gross) (mostV c week (gross - txV tax gross))), .int .i64 0, .int .i64 0] from rfl) fun wS c9 lS => ⟨(E.SJ.behind (by kernel_rfl)).mpr trivial, ?_⟩))
  replace b5 := blk_grown b5 lS (E.nes (by first | assumption | exact Ne.symm (by assumption)))
  replace b8 := blk_grown b8 lS (E.nes (by first | assumption | exact Ne.symm (by assumption)))
  replace b13 := blk_grown b13 lS (E.nes (by first | assumption | exact Ne.symm (by assumption)))
  replace L := E.below_own L h9_L lS
  replace b9 := c9
  clear c9
  refine E.GJ.done (by kernel_rfl) ?_
  refine E.qc (E.cs (E.CG.heldJ 6 (fun v W => v.grownBy W (none)) (fun _ _ => True) (by kernel_rfl) (by kernel_rfl) (fun v => World.grownBy.refl _ _) fun v12 lD => ?_))
  replace b5 := blk_below b5 lD
  replace b8 := blk_below b8 lD
  replace b9 := blk_below b9 lD
  replace b13 := blk_below b13 lD
  replace L := below_step L lD
  have lD12 := lD
  clear lD
  have s_b5 := b5
  have s_b8 := b8
  have s_b9 := b9
  have s_b13 := b13
  have s_L := L
  have hh : v12.grownBy v12 (none) := World.grownBy.refl _ _
  refine E.GJ.take1 (i := 0) rfl (by kernel_rfl) (by kernel_rfl) (by kernel_rfl) (by kernel_rfl) rfl (by kernel_rfl) (by kernel_rfl) (by intro c a d v w h; first | (cases d <;> exact h) | exact nomatch (show _ ∧ _ from h).1) rfl rfl rfl (fun w' hS => (E.Runs.sliceArr rfl rfl hu48 z3 (by decide))) ?_
  refine E.GJ.take1 (i := 1) rfl (by kernel_rfl) (by kernel_rfl) (by kernel_rfl) (by kernel_rfl) rfl (by kernel_rfl) (by kernel_rfl) (by intro c a d v w h; first | (cases d <;> exact h) | exact nomatch (show _ ∧ _ from h).1) rfl rfl rfl (fun w' hS => (E.Runs.sliceArr rfl rfl hu48 z3 (by decide))) ?_
  refine E.GJ.one (i := 2) (by kernel_rfl) (E.OJ.st rfl rfl rfl rfl (E.ST.call rfl ent34 (E.evc rfl E.evn) ((max34 [(stepV c week (gross - txV tax gross)), (nutV c (gross - txV tax gross)), c.f7] (some ⟨g13, 0, none⟩) 3 _ (C_nums [(stepV c week (gross - txV tax gross)), (nutV c (gross - txV tax gross)), c.f7] b13 (by simp)) (by simp) (by simp)).mono ?_)))
  rintro e w82 ⟨rfl, l82⟩
  refine ⟨_, rfl, (E.SJ.before (by kernel_rfl)).mpr (hh.trans (E.gbB l82)), ?_⟩
  replace hh := hh.trans (E.gbB l82)
  replace b5 := blk_below b5 l82
  replace b8 := blk_below b8 l82
  replace b9 := blk_below b9 l82
  replace b13 := blk_below b13 l82
  replace L := below_step L l82
  refine E.GJ.one (i := 3) (by kernel_rfl) (E.OJ.st rfl rfl rfl rfl (E.ST.call rfl ent35 (E.evc rfl (E.evc rfl E.evn)) ((index35 (mostV c week (gross - txV tax gross)) [(stepV c week (gross - txV tax gross)), (nutV c (gross - txV tax gross)), c.f7] (some ⟨g13, 0, none⟩) 3 _ (C_nums [(stepV c week (gross - txV tax gross)), (nutV c (gross - txV tax gross)), c.f7] b13 (by simp)) (by simp)).mono ?_)))
  rintro e w83 ⟨r83, rfl, hr83, l83⟩
  refine ⟨_, rfl, (E.SJ.before (by kernel_rfl)).mpr (hh.trans (E.gbB l83)), ?_⟩
  replace hh := hh.trans (E.gbB l83)
  replace b5 := blk_below b5 l83
  replace b8 := blk_below b8 l83
  replace b9 := blk_below b9 l83
  replace b13 := blk_below b13 l83
  replace L := below_step L l83
  have hri := idx3 hr83 hmd
  refine E.GJ.take1 (i := 4) rfl (by kernel_rfl) (by kernel_rfl) (by kernel_rfl) (by kernel_rfl) rfl (by kernel_rfl) (by kernel_rfl) (by intro c a d v w h; first | (cases d <;> exact h) | exact nomatch (show _ ∧ _ from h).1) rfl rfl rfl (fun w' hS => (E.Runs.add rfl rfl rfl ((IntWalk.i64_in _ (by rw [hri]; split <;> (try split) <;> omega)).trans (show _ = (1 + (if (stepV c week (gross - txV tax gross)) = (mostV c week (gross - txV tax gross)) then 0 else if (nutV c (gross - txV tax gross)) = (mostV c week (gross - txV tax gross)) then 1 else 2)) from by rw [hri])))) ?_
  refine E.GJ.take1 (i := 5) rfl (by kernel_rfl) (by kernel_rfl) (by kernel_rfl) (by kernel_rfl) rfl (by kernel_rfl) (by kernel_rfl) (by intro c a d v w h; first | (cases d <;> exact h) | exact nomatch (show _ ∧ _ from h).1) rfl rfl rfl (fun w' hS => (E.Runs.fieldAddr rfl rfl hu57 rfl (by assumption) rfl)) ?_
  refine E.GJ.one (i := 6) (by kernel_rfl) (E.OJ.sn rfl rfl rfl (E.ST.store rfl (by assumption) (by assumption) rfl rfl b9 rfl (show _ = #[.int .i64 gross, .int .i64 (txV tax gross), .int .i64 (gross - txV tax gross), .int .i64 (mn (gross - txV tax gross) (mostV c week (gross - txV tax gross))), .int .i64 0, .int .i64 (1 + (if (stepV c week (gross - txV tax gross)) = (mostV c week (gross - txV tax gross)) then 0 else if (nutV c (gross - txV tax gross)) = (mostV c week (gross - txV tax gross)) then 1 else 2))] from rfl) fun wS c9 lS => ⟨(E.SJ.behind (by kernel_rfl)).mpr trivial, ?_⟩))
  replace b5 := blk_grown b5 lS (E.nes (by first | assumption | exact Ne.symm (by assumption)))
  replace b8 := blk_grown b8 lS (E.nes (by first | assumption | exact Ne.symm (by assumption)))
  replace b13 := blk_grown b13 lS (E.nes (by first | assumption | exact Ne.symm (by assumption)))
  replace L := E.below_own L h9_L lS
  replace b9 := c9
  clear c9
  refine E.GJ.done (by kernel_rfl) ?_
  refine E.qc (E.cs (E.cl (E.gr rfl (E.Runs.fieldAddr rfl rfl hu57 rfl (by assumption) rfl) ?_)))
  refine E.gr rfl (E.Runs.load rfl rfl hu3 (by first | assumption | exact E.blkc (by assumption) rfl | exact pw_cell_below L (by assumption))) ?_
  refine E.gr rfl (E.Runs.fieldAddr rfl rfl hu57 rfl (by assumption) rfl) ?_
  refine E.gr rfl (E.Runs.load rfl rfl hu3 (by first | assumption | exact E.blkc (by assumption) rfl | exact pw_cell_below L (by assumption))) ?_
  refine E.gr rfl (E.Runs.sub rfl rfl rfl (IntWalk.i64_in _ (by omega))) ?_
  refine E.gr rfl (E.Runs.fieldAddr rfl rfl hu57 rfl (by assumption) rfl) ?_
  refine E.GL.sn rfl rfl (E.ST.store rfl (by assumption) (by assumption) rfl rfl b9 rfl (show _ = #[.int .i64 gross, .int .i64 (txV tax gross), .int .i64 (gross - txV tax gross), .int .i64 (mn (gross - txV tax gross) (mostV c week (gross - txV tax gross))), .int .i64 ((gross - txV tax gross) - (mn (gross - txV tax gross) (mostV c week (gross - txV tax gross)))), .int .i64 (1 + (if (stepV c week (gross - txV tax gross)) = (mostV c week (gross - txV tax gross)) then 0 else if (nutV c (gross - txV tax gross)) = (mostV c week (gross - txV tax gross)) then 1 else 2))] from rfl) fun wS13_6 c9 lS13_6 => ?_)
  replace b5 := blk_grown b5 lS13_6 (E.nes (by first | assumption | exact Ne.symm (by assumption)))
  replace b8 := blk_grown b8 lS13_6 (E.nes (by first | assumption | exact Ne.symm (by assumption)))
  replace b13 := blk_grown b13 lS13_6 (E.nes (by first | assumption | exact Ne.symm (by assumption)))
  replace L := E.below_own L h9_L lS13_6
  replace b9 := c9
  clear c9
  refine E.gd (E.qc (E.cs (E.cl (E.gr rfl (E.Runs.loads (cs := [.int .i64 gross, .int .i64 (txV tax gross), .int .i64 (gross - txV tax gross), .int .i64 (mn (gross - txV tax gross) (mostV c week (gross - txV tax gross))), .int .i64 ((gross - txV tax gross) - (mn (gross - txV tax gross) (mostV c week (gross - txV tax gross)))), .int .i64 (1 + (if (stepV c week (gross - txV tax gross)) = (mostV c week (gross - txV tax gross)) then 0 else if (nutV c (gross - txV tax gross)) = (mostV c week (gross - txV tax gross)) then 1 else 2))]) rfl rfl hu57 rfl info57s (blk_cells b9)) ?_))))
  refine E.GL.store_whole rfl rfl rfl rfl rfl b8 rfl info57s (int6_one _ _ _ _ _ _) fun wS14_1 c8 lS14_1 => ?_
  replace b5 := blk_grown b5 lS14_1 (E.nes (by first | assumption | exact Ne.symm (by assumption)))
  replace b9 := blk_grown b9 lS14_1 (E.nes (by first | assumption | exact Ne.symm (by assumption)))
  replace b13 := blk_grown b13 lS14_1 (E.nes (by first | assumption | exact Ne.symm (by assumption)))
  replace L := E.below_own L h8_L lS14_1
  replace b8 := c8
  clear c8
  refine E.gd (E.qc (E.CG.ret ?_))
  exact fun a ha => E.QG.result_c (P := Try.prog) rfl rfl b8 hu57 rfl info57s ⟨rfl, L⟩ a ha

end Go.Proofs.Ytkjefnlhhfpllaa.T
namespace Go.Proofs.Ytkjefnlhhfpllaa.T
open Go.RowKit Go.Proofs.YtkjefnlhhfpllaaW.PrintWords Go.Proofs.YtkjefnlhhfpllaaW.PrintMore
open Go.Proofs.Ytkjefnlhhfpllaa.P
set_option linter.unusedVariables false
set_option linter.unusedSimpArgs false

theorem dis_eq {cs : List S36} (h : Dis cs) {x y : S36} (hx : x ∈ cs) (hy : y ∈ cs) (e : x.f0 = y.f0) : x = y := by
 obtain ⟨i, hi⟩ := List.mem_iff_getElem?.mp hx
 obtain ⟨j, hj⟩ := List.mem_iff_getElem?.mp hy
 rcases Nat.lt_trichotomy i j with q | q | q
 ·exact absurd e (h i j x y q hi hj)
 ·subst q
  rw [hi] at hj
  injection hj
 ·exact absurd e.symm (h j i y x q hj hi)
theorem RsOk.tl {V : Bk} (h : RsOk V) : ∀ r ∈ V.rs, Tl r := fun r hr => ⟨(h.all r hr).n.2.2.1, (h.all r hr).n.2.2.2⟩
theorem RsOk.gro {V : Bk} (h : RsOk V) (film week : Int) : 0 ≤ grossV V.rs film week ∧ grossV V.rs film week ≤ 100000000 := groG_le fun r hr => h.tl r (srt_mem (cpt_mem hr))
set_option maxRecDepth 100000 in
set_option maxHeartbeats 8000000 in

theorem ask8_s (V : Bk) (m : Ba) (c : S36) (w : World) (hM : BM w V m) (ok : BOk V) (rk : RsOk V) (hcap : V.cs.length ≤ m.a) (hc : c ∈ V.cs) :
  Calls Try.prog 22 #[bv V m, .int .i64 c.f0] w fun e w' => ∃ a k b l, e = .returned (.tuple #[.agg #[.int .i64 c.f0, .int .i64 c.f1, .int .i64 c.f2, .slice a c.f3.length k, .slice b c.f4.length l, .int .i64 c.f5, .int .i64 c.f6, .int .i64 c.f7, .int .i64 c.f8], .int .i64 0]) ∧ CM w' c a k b l ∧ Below w.heap.size w w' := by
 have hcn := ok.n
 have hu3 := Try.underlying3
 have hu22 := Try.underlying22
 have hu26 := Try.underlying26
 have hu29 := Try.underlying29
 have hu34 := Try.underlying34
 have hu36 := Try.underlying36
 obtain ⟨z36, o36⟩ := info_some info36s (by decide)
 refine E.enter (N := 25) Try.func22 rfl Try.ntmps22 (args := [bv V m, .int .i64 c.f0]) (by simp) ?_
 have L := Below.refl w.heap.size w
 refine E.cs (E.cl ?_)
 refine E.GL.st rfl rfl rfl (E.ST.box rfl rfl fun g2 w2 e2 b2 l2 => ?_)
 have h2_L : w.heap.size ≤ g2 := by rw [e2]; exact L.size
 replace L := below_step L l2
 refine E.GL.st rfl rfl rfl (E.ST.alloc rfl info36z fun g4 w4 e4 b4 l4 => ?_)
 have h4_L : w.heap.size ≤ g4 := by rw [e4]; exact L.size
 have n4_b2 : g2 ≠ g4 := by have := blk_lt b2; omega
 replace b2 := blk_below b2 l4
 replace L := below_step L l4
 refine E.ga rfl rfl rfl (E.gd (E.qc (E.cs (E.cs (E.cl (E.gr rfl (E.Runs.loads (cs := [.int .i64 V.tax, .slice m.A V.cs.length m.a, .slice m.B V.rs.length m.b]) rfl rfl hu29 rfl info29s (blk_cells b2)) ?_))))))
 refine E.GL.st rfl rfl rfl (E.ST.call rfl ent32 (E.evc rfl E.evn) ((check8_s V m _ (hM.below L) ok rk hcap).mono ?_))
 rintro e w10 ⟨rfl, l10⟩
 refine ⟨_, rfl, ?_⟩
 replace b2 := blk_below b2 l10
 replace b4 := blk_below b4 l10
 replace L := below_step L l10
 refine E.ga rfl rfl rfl (E.gd (E.qc (E.cs (E.cl (E.gm rfl rfl rfl (E.gr rfl (E.Runs.neq rfl rfl rfl (E.ne_f rfl)) ?_))))))
 refine E.gd (E.qc (E.CG.cond_f rfl (E.CG.skip (E.qc (E.cs (E.cl (E.gr rfl (E.Runs.loads (cs := [.int .i64 V.tax, .slice m.A V.cs.length m.a, .slice m.B V.rs.length m.b]) rfl rfl hu29 rfl info29s (blk_cells b2)) ?_)))))))
 refine E.gm rfl rfl rfl ?_
 refine E.GL.st rfl rfl rfl (E.ST.call rfl ent33 (E.evc rfl (E.evc rfl E.evn)) ((contract_s V m c.f0 w _ L hM.cs (by omega)).mono ?_))
 rintro e w18 ⟨q, qa, qk, qb, ql, r18, rfl, hq, l18⟩
 refine ⟨_, rfl, ?_⟩
 replace b2 := blk_below b2 l18
 replace b4 := blk_below b4 l18
 replace L := below_step L l18
 have hr18 : r18 = true := by
  rcases r18 with _ | _
  ·exact absurd rfl (hq.2.2 rfl c hc)
  ·rfl
 subst hr18
 obtain ⟨hqm, hqf⟩ := hq.2.1 rfl
 have hqc := dis_eq ok.d hqm hc hqf
 have hqM := hq.1
 refine E.gm rfl rfl rfl (E.gr rfl (E.Runs.extract rfl rfl rfl) ?_)
 refine E.gr rfl (E.Runs.extract rfl rfl rfl) ?_
 refine E.GL.st rfl rfl rfl (E.ST.alloc rfl info36z fun g7 w7 e7 b7 l7 => ?_)
 have h7_L : w.heap.size ≤ g7 := by rw [e7]; exact L.size
 have n7_b2 : g2 ≠ g7 := by have := blk_lt b2; omega
 have n7_b4 : g4 ≠ g7 := by have := blk_lt b4; omega
 replace b2 := blk_below b2 l7
 replace b4 := blk_below b4 l7
 replace L := below_step L l7
 refine E.GL.store_whole rfl rfl rfl rfl rfl b7 rfl info36s (con_one _ _ _ _ _ _ _ _ _ _ _ _ _) fun wS4_7 c7 lS4_7 => ?_
 replace b2 := blk_grown b2 lS4_7 (E.nes (by first | assumption | exact Ne.symm (by assumption)))
 replace b4 := blk_grown b4 lS4_7 (E.nes (by first | assumption | exact Ne.symm (by assumption)))
 replace L := E.below_own L h7_L lS4_7
 replace b7 := c7
 clear c7
 refine E.ga rfl rfl rfl (E.gd (E.qc (E.cs (E.cs (E.cl (E.gm rfl rfl rfl (E.gr rfl (E.Runs.not rfl rfl) ?_)))))))
 refine E.gd (E.qc (E.CG.cond_f rfl (E.CG.skip (E.qc (E.cs (E.cl (E.gr rfl (E.Runs.loads (cs := [.int .i64 q.f0, .int .i64 q.f1, .int .i64 q.f2, .slice qa q.f3.length qk, .slice qb q.f4.length ql, .int .i64 q.f5, .int .i64 q.f6, .int .i64 q.f7, .int .i64 q.f8]) rfl rfl hu36 rfl info36s (blk_cells b7)) ?_)))))))
 refine E.GL.store_whole rfl rfl rfl rfl rfl b4 rfl info36s (con_one _ _ _ _ _ _ _ _ _ _ _ _ _) fun wS7_1 c4 lS7_1 => ?_
 replace b2 := blk_grown b2 lS7_1 (E.nes (by first | assumption | exact Ne.symm (by assumption)))
 replace b7 := blk_grown b7 lS7_1 (E.nes (by first | assumption | exact Ne.symm (by assumption)))
 replace L := E.below_own L h4_L lS7_1
 replace b4 := c4
 clear c4
 refine E.ga rfl rfl rfl (E.gd (E.qc (E.CG.ret ?_)))
 have hqM2 := hqM.below L
 subst hqc
 exact E.QG.result_ct rfl rfl b4 hu36 rfl info36s rfl ⟨qa, qk, qb, ql, rfl, hqM2, L⟩

set_option maxRecDepth 100000 in
set_option maxHeartbeats 8000000 in

theorem week_s (V : Bk) (m : Ba) (c : S36) (w : World) (hM : BM w V m) (ok : BOk V) (rk : RsOk V) (hcap : V.cs.length ≤ m.a) (hc : c ∈ V.cs) (week : Int) (hw : inR week c.f1 c.f2) :
  Calls Try.prog 13 #[bv V m, .int .i64 c.f0, .int .i64 week] w fun e w' => e = .returned (.tuple #[.agg #[.int .i64 (accV V.tax c week (grossV V.rs c.f0 week)).f0, .int .i64 (accV V.tax c week (grossV V.rs c.f0 week)).f1, .int .i64 (accV V.tax c week (grossV V.rs c.f0 week)).f2, .int .i64 (accV V.tax c week (grossV V.rs c.f0 week)).f3, .int .i64 (accV V.tax c week (grossV V.rs c.f0 week)).f4, .int .i64 (accV V.tax c week (grossV V.rs c.f0 week)).f5], .int .i64 0]) ∧ Below w.heap.size w w' := by
 have hu3 := Try.underlying3
 have hu22 := Try.underlying22
 have hu26 := Try.underlying26
 have hu29 := Try.underlying29
 have hu34 := Try.underlying34
 have hu36 := Try.underlying36
 have hu57 := Try.underlying57
 obtain ⟨z3, o3⟩ := info_some info3s (by decide)
 obtain ⟨z36, o36⟩ := info_some info36s (by decide)
 obtain ⟨z57, o57⟩ := info_some info57s (by decide)
 refine E.enter (N := 37) Try.func13 rfl Try.ntmps13 (args := [bv V m, .int .i64 c.f0, .int .i64 week]) (by simp) ?_
 have L := Below.refl w.heap.size w
 refine E.cs (E.cl ?_)
 refine E.GL.st rfl rfl rfl (E.ST.box rfl rfl fun g3 w3 e3 b3 l3 => ?_)
 have h3_L : w.heap.size ≤ g3 := by rw [e3]; exact L.size
 replace L := below_step L l3
 refine E.GL.st rfl rfl rfl (E.ST.alloc rfl info57z fun g6 w6 e6 b6 l6 => ?_)
 have h6_L : w.heap.size ≤ g6 := by rw [e6]; exact L.size
 have n6_b3 : g3 ≠ g6 := by have := blk_lt b3; omega
 replace b3 := blk_below b3 l6
 replace L := below_step L l6
 refine E.ga rfl rfl rfl (E.gd (E.qc (E.cs (E.cl (E.gr rfl (E.Runs.loads (cs := [.int .i64 V.tax, .slice m.A V.cs.length m.a, .slice m.B V.rs.length m.b]) rfl rfl hu29 rfl info29s (blk_cells b3)) ?_)))))
 refine E.gm rfl rfl rfl ?_
 refine E.GL.st rfl rfl rfl (E.ST.call rfl ent22 (E.evc rfl (E.evc rfl E.evn)) ((ask8_s V m c _ (hM.below L) ok rk hcap hc).mono ?_))
 rintro e w13 ⟨qa, qk, qb, ql, rfl, hqM, l13⟩
 refine ⟨_, rfl, ?_⟩
 replace b3 := blk_below b3 l13
 replace b6 := blk_below b6 l13
 replace L := below_step L l13
 have K := Below.refl w13.heap.size w13
 refine E.gm rfl rfl rfl (E.gr rfl (E.Runs.extract rfl rfl rfl) ?_)
 refine E.gr rfl (E.Runs.extract rfl rfl rfl) ?_
 refine E.GL.st rfl rfl rfl (E.ST.alloc rfl info36z fun g8 w8 e8 b8 l8 => ?_)
 have h8_L : w.heap.size ≤ g8 := by rw [e8]; exact L.size
 have h8_K : w13.heap.size ≤ g8 := by rw [e8]; exact K.size
 have n8_b3 : g3 ≠ g8 := by have := blk_lt b3; omega
 have n8_b6 : g6 ≠ g8 := by have := blk_lt b6; omega
 replace b3 := blk_below b3 l8
 replace b6 := blk_below b6 l8
 replace L := below_step L l8
 replace K := below_step K l8
 refine E.GL.store_whole rfl rfl rfl rfl rfl b8 rfl info36s (con_one _ _ _ _ _ _ _ _ _ _ _ _ _) fun wS1_7 c8 lS1_7 => ?_
 replace b3 := blk_grown b3 lS1_7 (E.nes (by first | assumption | exact Ne.symm (by assumption)))
 replace b6 := blk_grown b6 lS1_7 (E.nes (by first | assumption | exact Ne.symm (by assumption)))
 replace L := E.below_own L h8_L lS1_7
 replace K := E.below_own K h8_K lS1_7
 replace b8 := c8
 clear c8
 refine E.ga rfl rfl rfl (E.gd (E.qc (E.cs (E.cs (E.cl (E.gm rfl rfl rfl (E.gr rfl (E.Runs.neq rfl rfl rfl (E.ne_f rfl)) ?_)))))))
 refine E.gd (E.qc (E.CG.cond_f rfl (E.CG.skip (E.qc (E.cs (E.cs (E.cl (E.gm rfl rfl rfl (E.gr rfl (E.Runs.fieldAddr rfl rfl hu36 rfl (by assumption) rfl) ?_)))))))))
 refine E.gr rfl (E.Runs.load rfl rfl hu3 (by first | assumption | exact E.blkc (by assumption) rfl | exact pw_cell_below L (by assumption) | exact pw_cell_below K (by assumption))) ?_
 refine E.gr rfl (E.Runs.fieldAddr rfl rfl hu36 rfl (by assumption) rfl) ?_
 refine E.gr rfl (E.Runs.load rfl rfl hu3 (by first | assumption | exact E.blkc (by assumption) rfl | exact pw_cell_below L (by assumption) | exact pw_cell_below K (by assumption))) ?_
 refine E.GL.st rfl rfl rfl (E.ST.call rfl ent23 (E.evc rfl (E.evc rfl (E.evc rfl E.evn))) ((within_s week c.f1 c.f2 true (iff_of_true rfl hw) _).mono ?_))
 rintro e w25 ⟨rfl, l25⟩
 refine ⟨_, rfl, ?_⟩
 replace b3 := blk_below b3 l25
 replace b6 := blk_below b6 l25
 replace b8 := blk_below b8 l25
 replace L := below_step L l25
 replace K := below_step K l25
 refine E.gr rfl (E.Runs.not rfl rfl) ?_
 refine E.gd (E.qc (E.CG.cond_f rfl (E.CG.skip (E.qc (E.cs (E.CG.heldJ 9 (fun v W => v.grownBy W (none)) (fun _ _ => True) (by kernel_rfl) (by kernel_rfl) (fun v => World.grownBy.refl _ _) fun v6 lD => ?_))))))
 replace b3 := blk_below b3 lD
 replace b6 := blk_below b6 lD
 replace b8 := blk_below b8 lD
 replace L := below_step L lD
 replace K := below_step K lD
 have lD6 := lD
 clear lD
 have s_b3 := b3
 have s_b6 := b6
 have s_b8 := b8
 have s_L := L
 have s_K := K
 have hh : v6.grownBy v6 (none) := World.grownBy.refl _ _
 refine E.GJ.take1 (i := 0) rfl (by kernel_rfl) (by kernel_rfl) (by kernel_rfl) (by kernel_rfl) rfl (by kernel_rfl) (by kernel_rfl) (by intro c a d v w h; first | (cases d <;> exact h) | exact nomatch (show _ ∧ _ from h).1) rfl rfl rfl (fun w' hS => (E.Runs.fieldAddr rfl rfl hu29 rfl (by assumption) rfl)) ?_
 refine E.GJ.take1 (i := 1) rfl (by kernel_rfl) (by kernel_rfl) (by kernel_rfl) (by kernel_rfl) rfl (by kernel_rfl) (by kernel_rfl) (by intro c a d v w h; first | (cases d <;> exact h) | exact nomatch (show _ ∧ _ from h).1) rfl rfl rfl (fun w' hS => (E.Runs.load rfl rfl hu3 (by first | exact E.keeps hS (E.blkc (by assumption) rfl) (by first | exact E.nen | exact E.nes (by assumption) | exact E.nes (Ne.symm (by assumption))) | exact pw_cell_below (below_step s_L (E.belowG hS)) (by assumption) | exact pw_cell_below (below_step s_K (E.belowG hS)) (by assumption)))) ?_
 refine E.GJ.take1 (i := 2) rfl (by kernel_rfl) (by kernel_rfl) (by kernel_rfl) (by kernel_rfl) rfl (by kernel_rfl) (by kernel_rfl) (by intro c a d v w h; first | (cases d <;> exact h) | exact nomatch (show _ ∧ _ from h).1) rfl rfl rfl (fun w' hS => (E.Runs.loads (cs := [.int .i64 c.f0, .int .i64 c.f1, .int .i64 c.f2, .slice qa c.f3.length qk, .slice qb c.f4.length ql, .int .i64 c.f5, .int .i64 c.f6, .int .i64 c.f7, .int .i64 c.f8]) rfl rfl hu36 rfl info36s (blk_cells (blk_grown s_b8 hS E.nen)))) ?_
 refine E.GJ.take1 (i := 3) rfl (by kernel_rfl) (by kernel_rfl) (by kernel_rfl) (by kernel_rfl) rfl (by kernel_rfl) (by kernel_rfl) (by intro c a d v w h; first | (cases d <;> exact h) | exact nomatch (show _ ∧ _ from h).1) rfl rfl rfl (fun w' hS => (E.Runs.move rfl rfl)) ?_
 refine E.GJ.take1 (i := 4) rfl (by kernel_rfl) (by kernel_rfl) (by kernel_rfl) (by kernel_rfl) rfl (by kernel_rfl) (by kernel_rfl) (by intro c a d v w h; first | (cases d <;> exact h) | exact nomatch (show _ ∧ _ from h).1) rfl rfl rfl (fun w' hS => (E.Runs.loads (cs := [.int .i64 V.tax, .slice m.A V.cs.length m.a, .slice m.B V.rs.length m.b]) rfl rfl hu29 rfl info29s (blk_cells (blk_grown s_b3 hS E.nen)))) ?_
 refine E.GJ.take1 (i := 5) rfl (by kernel_rfl) (by kernel_rfl) (by kernel_rfl) (by kernel_rfl) rfl (by kernel_rfl) (by kernel_rfl) (by intro c a d v w h; first | (cases d <;> exact h) | exact nomatch (show _ ∧ _ from h).1) rfl rfl rfl (fun w' hS => (E.Runs.move rfl rfl)) ?_
 refine E.GJ.take1 (i := 6) rfl (by kernel_rfl) (by kernel_rfl) (by kernel_rfl) (by kernel_rfl) rfl (by kernel_rfl) (by kernel_rfl) (by intro c a d v w h; first | (cases d <;> exact h) | exact nomatch (show _ ∧ _ from h).1) rfl rfl rfl (fun w' hS => (E.Runs.move rfl rfl)) ?_
 refine E.GJ.one (i := 7) (by kernel_rfl) (E.OJ.st rfl rfl rfl rfl (E.ST.call rfl ent25 (E.evc rfl (E.evc rfl (E.evc rfl E.evn))) ((gross_s V m c.f0 week _ (Kd.C_below hM.rs L) rk.n0 rk.n rk.idr rk.on rk.tl).mono ?_)))
 rintro e w35 ⟨rfl, l35⟩
 refine ⟨_, rfl, (E.SJ.before (by kernel_rfl)).mpr (hh.trans (E.gbB l35)), ?_⟩
 replace hh := hh.trans (E.gbB l35)
 replace b3 := blk_below b3 l35
 replace b6 := blk_below b6 l35
 replace b8 := blk_below b8 l35
 replace L := below_step L l35
 replace K := below_step K l35
 refine E.GJ.one (i := 8) (by kernel_rfl) (E.OJ.st rfl rfl rfl rfl (E.ST.call rfl ent24 (E.evc rfl (E.evc rfl (E.evc rfl (E.evc rfl E.evn)))) ((account_s V.tax c week _ qa qb qk ql _ (hqM.below K) (ok.cs c hc) ok.tax hw (rk.gro _ _)).mono ?_)))
 rintro e w36 ⟨rfl, l36⟩
 refine ⟨_, rfl, (E.SJ.before (by kernel_rfl)).mpr (hh.trans (E.gbB l36)), ?_⟩
 replace hh := hh.trans (E.gbB l36)
 replace b3 := blk_below b3 l36
 replace b6 := blk_below b6 l36
 replace b8 := blk_below b8 l36
 replace L := below_step L l36
 replace K := below_step K l36
 refine E.GJ.one (i := 9) (by kernel_rfl) (E.OJ.sn rfl rfl rfl (E.ST.storeS (off := 0) (cells := [.int .i64 (accV V.tax c week (grossV V.rs c.f0 week)).f0, .int .i64 (accV V.tax c week (grossV V.rs c.f0 week)).f1, .int .i64 (accV V.tax c week (grossV V.rs c.f0 week)).f2, .int .i64 (accV V.tax c week (grossV V.rs c.f0 week)).f3, .int .i64 (accV V.tax c week (grossV V.rs c.f0 week)).f4, .int .i64 (accV V.tax c week (grossV V.rs c.f0 week)).f5]) rfl rfl rfl b6 rfl info57s (int6_one _ _ _ _ _ _) rfl fun wS c6 lS => ⟨(E.SJ.behind (by kernel_rfl)).mpr trivial, ?_⟩))
 replace b3 := blk_grown b3 lS (E.nes (by first | assumption | exact Ne.symm (by assumption)))
 replace b8 := blk_grown b8 lS (E.nes (by first | assumption | exact Ne.symm (by assumption)))
 replace L := E.below_own L h6_L lS
 replace b6 := c6
 clear c6
 refine E.GJ.one (i := 10) (by kernel_rfl) (E.OJ.st rfl rfl rfl rfl (E.ST.reads (E.Runs.assign rfl rfl) ⟨(E.SJ.behind (by kernel_rfl)).mpr trivial, ?_⟩))
 refine E.GJ.done (by kernel_rfl) ?_
 refine E.qc (E.CG.ret ?_)
 exact E.QG.result_ct rfl rfl b6 hu57 rfl info57s rfl ⟨rfl, L⟩

end Go.Proofs.Ytkjefnlhhfpllaa.T
