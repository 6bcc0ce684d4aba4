/- Texts of this claim, put together: A20, A21, N9, A22, A23, A24, N10, A25, O1, B2, B3. -/
import Derived.Test.YtdiambcjghlffaaG3
import Derived.Test.YtdiambcjghlffaaRows
import Derived.ProofKit
import Derived.OpenShut
import Derived.ChangeOld
import Derived.SizedLaws
import Derived.Deep.Slices
namespace Go.Proofs.Ytdiambcjghlffaa.T
open Go.RowKit Go.Proofs.YtdiambcjghlffaaW.PrintWords Go.Proofs.YtdiambcjghlffaaW.PrintMore
open Go.Proofs.Ytdiambcjghlffaa.P
set_option linter.unusedVariables false
set_option linter.unusedSimpArgs false

set_option maxRecDepth 100000 in
set_option maxHeartbeats 8000000 in

theorem clash_calls (V : Wk) (m : Wa) (w : World) (hV : WM w V m) (hs : Sz V) :
    Calls Try.prog 17 #[wv V m] w fun e w' => ∃ v l er, e = .returned (.tuple #[v, .int .i64 er]) ∧ Kd.R kI 3 w' w.heap.size (fun _ => True) v l ∧ ClOk V l er ∧ Below w.heap.size w w' := by
  have hu3 := Try.underlying3
  have hu22 := Try.underlying22
  have hu26 := Try.underlying26
  have hu30 := Try.underlying30
  have hu60 := Try.underlying60
  have hu62 := Try.underlying62
  have hu63 := Try.underlying63
  have hu66 := Try.underlying66
  have hu68 := Try.underlying68
  obtain ⟨z3, o3⟩ := info_some info3s (by decide)
  obtain ⟨z22, o22⟩ := info_some info22s (by decide)
  obtain ⟨z62, o62⟩ := info_some info62s (by decide)
  refine E.enter (N := 63) Try.func17 rfl Try.ntmps17 (args := [wv V m]) (by simp) ?_
  have L := Below.refl w.heap.size w
  refine E.CG.seq ?_
  refine E.CG.list ?_
  refine E.GL.st rfl rfl rfl (E.ST.box rfl rfl fun g1 w1 e1 b1 l1 => ?_)
  have h1_L : w.heap.size ≤ g1 := by rw [e1]; exact L.size
  replace L := below_step L l1
  refine E.GL.run rfl rfl rfl (E.Runs.assign rfl rfl) ?_
  refine E.GL.run rfl rfl rfl (E.Runs.assign rfl rfl) ?_
  refine E.GL.done ?_
  refine E.QG.code ?_
  refine E.CG.seq ?_
  refine E.CG.list ?_
  refine E.GL.run rfl rfl rfl (E.Runs.loads (cs := [.int .i64 V.d, .slice m.A V.rs.length m.a, .int .i64 V.h, .slice m.B V.fs.length m.b, .slice m.C V.ds.length m.c]) rfl rfl hu26 rfl info26s (blk_cells b1)) ?_
  refine E.GL.st rfl rfl rfl (E.ST.call rfl ent37 (E.evc rfl E.evn) ((search_calls V m _ (hV.below L) hs).mono ?_))
  rintro e w14 ⟨t, c, er, rfl, hS, l14⟩
  refine ⟨_, rfl, ?_⟩
  replace b1 := blk_below b1 l14
  replace L := below_step L l14
  have K := Below.refl w14.heap.size w14
  refine E.GL.run rfl rfl rfl (E.Runs.move rfl rfl) ?_
  rcases hS.three with ⟨nok, her, her0, her3⟩ | ⟨ok, b, g, f, q, rfl, rfl, hM, hT, hmx, rfl⟩ | ⟨ok, g, f, q, rfl, hM, hT, hmx, rfl⟩
  · refine E.GL.run rfl rfl rfl (E.Runs.extract rfl rfl rfl) ?_
    refine E.GL.run rfl rfl rfl (E.Runs.extract rfl rfl rfl) ?_
    refine E.GL.run rfl rfl rfl (E.Runs.extract rfl rfl rfl) ?_
    refine E.GL.st rfl rfl rfl (E.ST.alloc rfl info62z fun g5 w5 e5 b5 l5 => ?_)
    have h5_L : w.heap.size ≤ g5 := by rw [e5]; exact L.size
    have h5_K : w14.heap.size ≤ g5 := by rw [e5]; exact K.size
    have n5_b1 : g1 ≠ g5 := by have := blk_lt b1; omega
    replace b1 := blk_below b1 l5
    replace L := below_step L l5
    replace K := below_step K l5
    refine E.GL.run rfl rfl rfl (E.Runs.assign rfl rfl) ?_
    refine E.GL.store_whole rfl rfl rfl rfl rfl b5 rfl info62s (best_one _ _ _ _) fun wS1_8 c5 lS1_8 => ?_
    replace b1 := blk_grown b1 lS1_8 (E.nes (by first | assumption | exact Ne.symm (by assumption)))
    replace L := E.below_own L h5_L lS1_8
    replace K := E.below_own K h5_K lS1_8
    replace b5 := c5
    clear c5
    refine E.GL.run rfl rfl rfl (E.Runs.assign rfl rfl) ?_
    refine E.GL.done ?_
    refine E.QG.code ?_
    refine E.CG.seq ?_
    refine E.CG.seq ?_
    refine E.CG.list ?_
    refine E.GL.run rfl rfl rfl (E.Runs.move rfl rfl) ?_
    refine E.GL.run rfl rfl rfl (E.Runs.eql rfl rfl rfl (decide_eq_false (by omega))) ?_
    refine E.GL.done ?_
    refine E.QG.code ?_
    refine E.CG.cond_f rfl ?_
    refine E.CG.skip ?_
    refine E.QG.code ?_
    refine E.CG.seq ?_
    refine E.CG.seq ?_
    refine E.CG.list ?_
    refine E.GL.run rfl rfl rfl (E.Runs.move rfl rfl) ?_
    refine E.GL.run rfl rfl rfl (E.Runs.neq rfl rfl rfl (E.ne_t (by omega))) ?_
    refine E.GL.done ?_
    refine E.QG.code ?_
    refine E.CG.cond_t rfl ?_
    refine E.CG.seq ?_
    refine E.CG.list ?_
    refine E.GL.run rfl rfl rfl (E.Runs.move rfl rfl) ?_
    refine E.GL.run rfl rfl rfl (E.Runs.assign rfl rfl) ?_
    refine E.GL.run rfl rfl rfl (E.Runs.assign rfl rfl) ?_
    refine E.GL.done ?_
    refine E.QG.code ?_
    refine E.CG.ret ?_
    refine E.QG.pass_ret ?_
    exact E.QG.result2 rfl rfl rfl ⟨_, [], _, rfl, Kd.R_nil _ _ _ _ _, .inl ⟨nok, rfl, her⟩, L⟩
  · refine E.GL.run rfl rfl rfl (E.Runs.extract rfl rfl rfl) ?_
    refine E.GL.run rfl rfl rfl (E.Runs.extract rfl rfl rfl) ?_
    refine E.GL.run rfl rfl rfl (E.Runs.extract rfl rfl rfl) ?_
    refine E.GL.st rfl rfl rfl (E.ST.alloc rfl info62z fun g5 w5 e5 b5 l5 => ?_)
    have h5_L : w.heap.size ≤ g5 := by rw [e5]; exact L.size
    have h5_K : w14.heap.size ≤ g5 := by rw [e5]; exact K.size
    have n5_b1 : g1 ≠ g5 := by have := blk_lt b1; omega
    replace b1 := blk_below b1 l5
    replace L := below_step L l5
    replace K := below_step K l5
    refine E.GL.run rfl rfl rfl (E.Runs.assign rfl rfl) ?_
    refine E.GL.store_whole rfl rfl rfl rfl rfl b5 rfl info62s (best_one _ _ _ _) fun wS1_8 c5 lS1_8 => ?_
    replace b1 := blk_grown b1 lS1_8 (E.nes (by first | assumption | exact Ne.symm (by assumption)))
    replace L := E.below_own L h5_L lS1_8
    replace K := E.below_own K h5_K lS1_8
    replace b5 := c5
    clear c5
    refine E.GL.run rfl rfl rfl (E.Runs.assign rfl rfl) ?_
    refine E.GL.done ?_
    refine E.QG.code ?_
    refine E.CG.seq ?_
    refine E.CG.seq ?_
    refine E.CG.list ?_
    refine E.GL.run rfl rfl rfl (E.Runs.move rfl rfl) ?_
    refine E.GL.run rfl rfl rfl (E.Runs.eql rfl rfl rfl (decide_eq_true rfl)) ?_
    refine E.GL.done ?_
    refine E.QG.code ?_
    refine E.CG.cond_t rfl ?_
    refine E.CG.seq ?_
    refine E.CG.list ?_
    refine E.GL.run rfl rfl rfl (E.Runs.assign rfl rfl) ?_
    refine E.GL.run rfl rfl rfl (E.Runs.assign rfl rfl) ?_
    refine E.GL.done ?_
    refine E.QG.code ?_
    refine E.CG.ret ?_
    refine E.QG.pass_ret ?_
    exact E.QG.result2 rfl rfl rfl ⟨_, [], _, rfl, Kd.R_nil _ _ _ _ _, .inr (.inl ⟨ok, ⟨_, hmx⟩, rfl, rfl⟩), L⟩
  · refine E.GL.run rfl rfl rfl (E.Runs.extract rfl rfl rfl) ?_
    refine E.GL.run rfl rfl rfl (E.Runs.extract rfl rfl rfl) ?_
    refine E.GL.run rfl rfl rfl (E.Runs.extract rfl rfl rfl) ?_
    refine E.GL.st rfl rfl rfl (E.ST.alloc rfl info62z fun g5 w5 e5 b5 l5 => ?_)
    have h5_L : w.heap.size ≤ g5 := by rw [e5]; exact L.size
    have h5_K : w14.heap.size ≤ g5 := by rw [e5]; exact K.size
    have n5_b1 : g1 ≠ g5 := by have := blk_lt b1; omega
    replace b1 := blk_below b1 l5
    replace L := below_step L l5
    replace K := below_step K l5
    refine E.GL.run rfl rfl rfl (E.Runs.assign rfl rfl) ?_
    refine E.GL.store_whole rfl rfl rfl rfl rfl b5 rfl info62s (best_one _ _ _ _) fun wS1_8 c5 lS1_8 => ?_
    replace b1 := blk_grown b1 lS1_8 (E.nes (by first | assumption | exact Ne.symm (by assumption)))
    replace L := E.below_own L h5_L lS1_8
    replace K := E.below_own K h5_K lS1_8
    replace b5 := c5
    clear c5
    refine E.GL.run rfl rfl rfl (E.Runs.assign rfl rfl) ?_
    refine E.GL.done ?_
    refine E.QG.code ?_
    refine E.CG.seq ?_
    refine E.CG.seq ?_
    refine E.CG.list ?_
    refine E.GL.run rfl rfl rfl (E.Runs.move rfl rfl) ?_
    refine E.GL.run rfl rfl rfl (E.Runs.eql rfl rfl rfl (decide_eq_false (by decide))) ?_
    refine E.GL.done ?_
    refine E.QG.code ?_
    refine E.CG.cond_f rfl ?_
    refine E.CG.skip ?_
    refine E.QG.code ?_
    refine E.CG.seq ?_
    refine E.CG.seq ?_
    refine E.CG.list ?_
    refine E.GL.run rfl rfl rfl (E.Runs.move rfl rfl) ?_
    refine E.GL.run rfl rfl rfl (E.Runs.neq rfl rfl rfl (E.ne_f rfl)) ?_
    refine E.GL.done ?_
    refine E.QG.code ?_
    refine E.CG.cond_f rfl ?_
    refine E.CG.skip ?_
    refine E.QG.code ?_
    refine E.CG.seq ?_
    refine E.CG.list ?_
    refine E.GL.run rfl rfl rfl (E.Runs.assign rfl rfl) ?_
    refine E.GL.done ?_
    refine E.QG.code ?_
    refine E.CG.seq ?_
    refine E.CG.seq ?_
    have ha8 := allS_lt ok.s
    refine E.CG.list ?_
    refine E.GL.run rfl rfl rfl (E.Runs.loads (cs := [.int .i64 V.d, .slice m.A V.rs.length m.a, .int .i64 V.h, .slice m.B V.fs.length m.b, .slice m.C V.ds.length m.c]) rfl rfl hu26 rfl info26s (blk_cells b1)) ?_
    refine E.GL.st rfl rfl rfl (E.ST.call rfl ent39 (E.evc rfl E.evn) ((all_calls V m _ ok.s.ds).mono ?_))
    rintro e w24 ⟨rfl, l24⟩
    refine ⟨_, rfl, ?_⟩
    replace b1 := blk_below b1 l24
    replace b5 := blk_below b5 l24
    replace L := below_step L l24
    replace K := below_step K l24
    refine E.GL.run rfl rfl rfl (E.Runs.add rfl rfl rfl (show IntKind.u64.wrap (((2 ^ V.ds.length - 1 : Nat) : Int) + 1) = ((allS V + 1 : Nat) : Int) from by rw [show (((2 ^ V.ds.length - 1 : Nat) : Int) + 1) = ((allS V + 1 : Nat) : Int) from by unfold allS; omega]; exact E.u64_in _ (by omega))) ?_
    refine E.GL.run rfl rfl rfl (E.Runs.move rfl rfl) ?_
    refine E.GL.done ?_
    refine E.QG.code ?_
    refine E.CG.block ?_
    have s8_b1 := b1
    have s8_b5 := b5
    have s8_L := L
    have s8_K := K
    refine E.CG.loop2 (fun (i : Nat) (u : Value × Option (List Int)) => [(1, .pointer (some ⟨g1, 0, none⟩)), (4, .map (some g)), (7, u.1), (25, .int .u64 (allS V + 1 : Nat)), (26, .int .u64 (i : Nat))]) (fun i u w' => i ≤ allS V + 1 ∧ Kd.R kI 3 w' w.heap.size (fun _ => True) u.1 (u.2.getD []) ∧ (u.2 = none → u.1 = .slice none 0 0) ∧ LsO V i u.2 ∧ w'.heap[g1]? = some (.cells #[.int .i64 V.d, .slice m.A V.rs.length m.a, .int .i64 V.h, .slice m.B V.fs.length m.b, .slice m.C V.ds.length m.c] 26 (0, 0)) ∧ Below w14.heap.size w14 w' ∧ Below w.heap.size w w') (fun i u => allS V + 1 - i) 0 (.slice none 0 0, none) (E.subc rfl (E.subc rfl (E.subc rfl (E.subc rfl (E.subc rfl E.subn))))) ⟨Nat.zero_le _, Kd.R_nil _ _ _ _ _, fun _ => rfl, (fun s hs => by omega), b1, K, L⟩ ?_
    rintro i u w8 ⟨hi, R7, hv7, hLs, b1, K, L⟩
    obtain ⟨v7, o⟩ := u
    replace R7 : Kd.R kI 3 _ w.heap.size (fun _ => True) v7 (o.getD []) := R7
    replace hv7 : o = none → v7 = .slice none 0 0 := hv7
    replace hLs : LsO V i o := hLs
    refine E.CG.seq ?_
    refine E.CG.list ?_
    refine E.GL.cmp rfl rfl rfl (fun _ h => (E.Runs.lss rfl rfl rfl h)) (fun h27 => ?_) (fun h27 => ?_)
    · have hi8 : i < 256 := by omega
      refine E.GL.done ?_
      refine E.QG.code ?_
      refine E.CG.seq ?_
      refine E.CG.cond_t rfl ?_
      refine E.CG.skip ?_
      refine E.QG.code ?_
      refine E.CG.seq ?_
      refine E.CG.block ?_
      refine E.CG.seq ?_
      refine E.CG.list ?_
      refine E.GL.run rfl rfl rfl (E.Runs.move rfl rfl) ?_
      refine E.GL.run rfl rfl rfl (E.Runs.assign rfl rfl) ?_
      refine E.GL.done ?_
      refine E.QG.code ?_
      refine E.CG.seq ?_
      refine E.CG.seq ?_
      refine E.CG.list ?_
      refine E.GL.run rfl rfl rfl (E.Runs.move rfl rfl) ?_
      refine E.GL.run rfl rfl rfl (E.Runs.move rfl rfl) ?_
      refine E.GL.st rfl rfl rfl (E.ST.call rfl ent40 (E.evc rfl (E.evc rfl E.evn)) ((of_calls g f i _ (hM.below K) (tb_key ok.s hT) (by omega)).mono ?_))
      rintro e w32 ⟨c2, rfl, hO2, l32⟩
      refine ⟨_, rfl, ?_⟩
      replace b1 := blk_below b1 l32
      replace R7 := Kd.R_below R7 l32
      replace L := below_step L l32
      replace K := below_step K l32
      refine E.GL.run rfl rfl rfl (E.Runs.move rfl rfl) ?_
      refine E.GL.run rfl rfl rfl (E.Runs.extract rfl rfl rfl) ?_
      rcases c2 with _ | b2
      · refine E.GL.run rfl rfl rfl (E.Runs.extract rfl rfl rfl) ?_
        refine E.GL.st rfl rfl rfl (E.ST.alloc rfl info62z fun g9 w9 e9 b9 l9 => ?_)
        have h9_L : w.heap.size ≤ g9 := by rw [e9]; exact L.size
        have h9_K : w14.heap.size ≤ g9 := by rw [e9]; exact K.size
        have n9_b1 : g1 ≠ g9 := by have := blk_lt b1; omega
        have n9_R7 : some g9 ≠ (v7).ownBlock := fun h => by have := Kd.R_lt R7 _ h.symm; omega
        replace b1 := blk_below b1 l9
        replace R7 := Kd.R_below R7 l9
        replace L := below_step L l9
        replace K := below_step K l9
        refine E.GL.store_whole rfl rfl rfl rfl rfl b9 rfl info62s (best_one _ _ _ _) fun wS10_7 c9 lS10_7 => ?_
        replace b1 := blk_grown b1 lS10_7 (E.nes (by first | assumption | exact Ne.symm (by assumption)))
        replace R7 := Kd.R_grown1 R7 rfl lS10_7 (by first | assumption | exact Kd.R_ne R7 b9 (by decide))
        replace L := E.below_own L h9_L lS10_7
        replace K := E.below_own K h9_K lS10_7
        replace b9 := c9
        clear c9
        refine E.GL.run rfl rfl rfl (E.Runs.assign rfl rfl) ?_
        refine E.GL.done ?_
        refine E.QG.code ?_
        refine E.CG.seq ?_
        refine E.CG.list ?_
        refine E.GL.run rfl rfl rfl (E.Runs.move rfl rfl) ?_
        refine E.GL.done ?_
        refine E.QG.code ?_
        refine E.CG.cond_f rfl ?_
        refine E.CG.skip ?_
        refine E.QG.code ?_
        refine E.CG.seq ?_
        refine E.CG.list ?_
        refine E.GL.run rfl rfl rfl (E.Runs.move rfl rfl) ?_
        have hcn : IsMx V i none := of_mx hT hO2
        have hLz := L.size
        refine E.GL.st rfl rfl rfl (E.ST.call rfl ent41 (E.evc rfl E.evn) ((list_calls i _ (by omega)).mono ?_))
        rintro e w37 ⟨v11, rfl, R11, l37⟩
        refine ⟨_, rfl, ?_⟩
        replace b1 := blk_below b1 l37
        replace b9 := blk_below b9 l37
        replace R7 := Kd.R_below R7 l37
        replace L := below_step L l37
        replace K := below_step K l37
        replace R11 := Kd.R_lower R11 hLz
        obtain ⟨A11, c11, hv11⟩ := Kd.R_slice R11
        subst hv11
        refine E.GL.run rfl rfl rfl (E.Runs.assign rfl rfl) ?_
        refine E.GL.done ?_
        refine E.QG.code ?_
        refine E.CG.seq ?_
        refine E.CG.list ?_
        refine E.GL.run rfl rfl rfl (E.Runs.move rfl rfl) ?_
        rcases o with _ | l
        · obtain rfl := hv7 rfl
          refine E.GL.run rfl rfl rfl (E.Runs.eqlv rfl rfl rfl rfl (fun _ _ _ => rfl) (eqNil22 _ _ _)) ?_
          refine E.GL.run rfl rfl rfl (E.Runs.move rfl rfl) ?_
          refine E.GL.skip rfl rfl rfl ?_
          refine E.GL.skip rfl rfl rfl ?_
          refine E.GL.skip rfl rfl rfl ?_
          refine E.GL.skip rfl rfl rfl ?_
          refine E.GL.skip rfl rfl rfl ?_
          refine E.GL.run rfl rfl rfl (E.Runs.pick_t rfl rfl rfl) ?_
          refine E.GL.run rfl rfl rfl (E.Runs.move rfl rfl) ?_
          refine E.GL.skip rfl rfl rfl ?_
          refine E.GL.skip rfl rfl rfl ?_
          refine E.GL.skip rfl rfl rfl ?_
          refine E.GL.skip rfl rfl rfl ?_
          refine E.GL.skip rfl rfl rfl ?_
          refine E.GL.skip rfl rfl rfl ?_
          refine E.GL.skip rfl rfl rfl ?_
          refine E.GL.skip rfl rfl rfl ?_
          refine E.GL.skip rfl rfl rfl ?_
          refine E.GL.skip rfl rfl rfl ?_
          refine E.GL.skip rfl rfl rfl ?_
          refine E.GL.run rfl rfl rfl (E.Runs.pick_t rfl rfl rfl) ?_
          refine E.GL.done ?_
          refine E.QG.code ?_
          refine E.CG.cond_t rfl ?_
          refine E.CG.list ?_
          refine E.GL.run rfl rfl rfl (E.Runs.move rfl rfl) ?_
          refine E.GL.run rfl rfl rfl (E.Runs.assign rfl rfl) ?_
          refine E.GL.done ?_
          refine E.QG.block_normal ?_
          refine E.QG.code ?_
          refine E.CG.list ?_
          refine E.GL.run rfl rfl rfl (E.Runs.add rfl rfl rfl (E.u64_in _ (by omega))) ?_
          refine E.GL.run rfl rfl rfl (E.Runs.move rfl rfl) ?_
          refine E.GL.done ?_
          exact E.QG.round2 (d := (.slice none 0 0, none)) (i + 1) (_, some (elN i 8)) (E.subc rfl (E.subc rfl (E.subc rfl (E.subc rfl (E.subc rfl E.subn))))) (by first | exact ⟨by omega, R7, hv7, hLs.skip (of_mx hT hO2).not, b1, K, L⟩ | exact ⟨by omega, R11, (fun e => nomatch e), hLs.first hi8 hcn, b1, K, L⟩ | exact ⟨by omega, R11, (fun e => nomatch e), hLs.put hi8 hcn (.inl (by omega)), b1, K, L⟩ | exact ⟨by omega, R11, (fun e => nomatch e), hLs.put hi8 hcn (.inr ⟨by omega, hn56.mp h57⟩), b1, K, L⟩ | exact ⟨by omega, R7, (fun e => nomatch e), hLs.keep (fun e => e.elim (fun e => by omega) (fun e => by first | exact h57 (hn56.mpr e.2) | exact h52 (by have := e.1; omega))), b1, K, L⟩ | fail) (by omega)
        · replace R7 : Kd.R kI 3 _ w.heap.size (fun _ => True) v7 l := R7
          obtain ⟨A7, c7, hv⟩ := Kd.R_slice R7
          subst hv
          have hlne := hLs.ne
          rcases A7 with _ | ad
          · exact absurd (C_none (Kd.R_reads' R7).2.2) hlne
          refine E.GL.run rfl rfl rfl (E.Runs.eqlv rfl rfl rfl rfl (fun _ _ _ => rfl) (eqNil22 _ _ _)) ?_
          refine E.GL.run rfl rfl rfl (E.Runs.move rfl rfl) ?_
          refine E.GL.run rfl rfl rfl (E.Runs.move rfl rfl) ?_
          refine E.GL.run rfl rfl rfl (E.Runs.len rfl rfl hu22) ?_
          refine E.GL.run rfl rfl rfl (E.Runs.move rfl rfl) ?_
          refine E.GL.run rfl rfl rfl (E.Runs.len rfl rfl hu22) ?_
          refine E.GL.cmp rfl rfl rfl (fun _ h => (E.Runs.lss rfl rfl rfl h)) (fun h45 => ?_) (fun h45 => ?_)
          · refine E.GL.run rfl rfl rfl (E.Runs.pick_f rfl rfl rfl) ?_
            refine E.GL.run rfl rfl rfl (E.Runs.move rfl rfl) ?_
            refine E.GL.skip rfl rfl rfl ?_
            refine E.GL.skip rfl rfl rfl ?_
            refine E.GL.skip rfl rfl rfl ?_
            refine E.GL.skip rfl rfl rfl ?_
            refine E.GL.skip rfl rfl rfl ?_
            refine E.GL.skip rfl rfl rfl ?_
            refine E.GL.skip rfl rfl rfl ?_
            refine E.GL.skip rfl rfl rfl ?_
            refine E.GL.skip rfl rfl rfl ?_
            refine E.GL.skip rfl rfl rfl ?_
            refine E.GL.skip rfl rfl rfl ?_
            refine E.GL.run rfl rfl rfl (E.Runs.pick_t rfl rfl rfl) ?_
            refine E.GL.done ?_
            refine E.QG.code ?_
            refine E.CG.cond_t rfl ?_
            refine E.CG.list ?_
            refine E.GL.run rfl rfl rfl (E.Runs.move rfl rfl) ?_
            refine E.GL.run rfl rfl rfl (E.Runs.assign rfl rfl) ?_
            refine E.GL.done ?_
            refine E.QG.block_normal ?_
            refine E.QG.code ?_
            refine E.CG.list ?_
            refine E.GL.run rfl rfl rfl (E.Runs.add rfl rfl rfl (E.u64_in _ (by omega))) ?_
            refine E.GL.run rfl rfl rfl (E.Runs.move rfl rfl) ?_
            refine E.GL.done ?_
            exact E.QG.round2 (d := (.slice none 0 0, none)) (i + 1) (_, some (elN i 8)) (E.subc rfl (E.subc rfl (E.subc rfl (E.subc rfl (E.subc rfl E.subn))))) (by first | exact ⟨by omega, R7, hv7, hLs.skip (of_mx hT hO2).not, b1, K, L⟩ | exact ⟨by omega, R11, (fun e => nomatch e), hLs.first hi8 hcn, b1, K, L⟩ | exact ⟨by omega, R11, (fun e => nomatch e), hLs.put hi8 hcn (.inl (by omega)), b1, K, L⟩ | exact ⟨by omega, R11, (fun e => nomatch e), hLs.put hi8 hcn (.inr ⟨by omega, hn56.mp h57⟩), b1, K, L⟩ | exact ⟨by omega, R7, (fun e => nomatch e), hLs.keep (fun e => e.elim (fun e => by omega) (fun e => by first | exact h57 (hn56.mpr e.2) | exact h52 (by have := e.1; omega))), b1, K, L⟩ | fail) (by omega)
          · refine E.GL.run rfl rfl rfl (E.Runs.pick_f rfl rfl rfl) ?_
            refine E.GL.run rfl rfl rfl (E.Runs.move rfl rfl) ?_
            refine E.GL.run rfl rfl rfl (E.Runs.move rfl rfl) ?_
            refine E.GL.run rfl rfl rfl (E.Runs.len rfl rfl hu22) ?_
            refine E.GL.run rfl rfl rfl (E.Runs.move rfl rfl) ?_
            refine E.GL.run rfl rfl rfl (E.Runs.len rfl rfl hu22) ?_
            refine E.GL.cmp rfl rfl rfl (fun _ h => (E.Runs.eql rfl rfl rfl h)) (fun h52 => ?_) (fun h52 => ?_)
            · refine E.GL.run rfl rfl rfl (E.Runs.move rfl rfl) ?_
              refine E.GL.run rfl rfl rfl (E.Runs.move rfl rfl) ?_
              refine E.GL.run rfl rfl rfl (E.Runs.move rfl rfl) ?_
              refine E.GL.st rfl rfl rfl (E.ST.call rfl ent42 (E.evc rfl (E.evc rfl E.evn)) ((compare_calls (elN i 8) l A11 (some ad) c11 c7 _ (by omega) (Kd.R_reads' R11).2.2 (Kd.R_reads' R7).2.2 (by have := elN_len i 8; omega)).mono ?_))
              rintro e w56 ⟨n56, rfl, hn56, l56⟩
              refine ⟨_, rfl, ?_⟩
              replace b1 := blk_below b1 l56
              replace b9 := blk_below b9 l56
              replace R7 := Kd.R_below R7 l56
              replace R11 := Kd.R_below R11 l56
              replace L := below_step L l56
              replace K := below_step K l56
              refine E.GL.cmp rfl rfl rfl (fun _ h => (E.Runs.lss rfl rfl rfl h)) (fun h57 => ?_) (fun h57 => ?_)
              · refine E.GL.run rfl rfl rfl (E.Runs.pick_t rfl rfl rfl) ?_
                refine E.GL.run rfl rfl rfl (E.Runs.pick_f rfl rfl rfl) ?_
                refine E.GL.done ?_
                refine E.QG.code ?_
                refine E.CG.cond_t rfl ?_
                refine E.CG.list ?_
                refine E.GL.run rfl rfl rfl (E.Runs.move rfl rfl) ?_
                refine E.GL.run rfl rfl rfl (E.Runs.assign rfl rfl) ?_
                refine E.GL.done ?_
                refine E.QG.block_normal ?_
                refine E.QG.code ?_
                refine E.CG.list ?_
                refine E.GL.run rfl rfl rfl (E.Runs.add rfl rfl rfl (E.u64_in _ (by omega))) ?_
                refine E.GL.run rfl rfl rfl (E.Runs.move rfl rfl) ?_
                refine E.GL.done ?_
                exact E.QG.round2 (d := (.slice none 0 0, none)) (i + 1) (_, some (elN i 8)) (E.subc rfl (E.subc rfl (E.subc rfl (E.subc rfl (E.subc rfl E.subn))))) (by first | exact ⟨by omega, R7, hv7, hLs.skip (of_mx hT hO2).not, b1, K, L⟩ | exact ⟨by omega, R11, (fun e => nomatch e), hLs.first hi8 hcn, b1, K, L⟩ | exact ⟨by omega, R11, (fun e => nomatch e), hLs.put hi8 hcn (.inl (by omega)), b1, K, L⟩ | exact ⟨by omega, R11, (fun e => nomatch e), hLs.put hi8 hcn (.inr ⟨by omega, hn56.mp h57⟩), b1, K, L⟩ | exact ⟨by omega, R7, (fun e => nomatch e), hLs.keep (fun e => e.elim (fun e => by omega) (fun e => by first | exact h57 (hn56.mpr e.2) | exact h52 (by have := e.1; omega))), b1, K, L⟩ | fail) (by omega)
              · refine E.GL.run rfl rfl rfl (E.Runs.pick_t rfl rfl rfl) ?_
                refine E.GL.run rfl rfl rfl (E.Runs.pick_f rfl rfl rfl) ?_
                refine E.GL.done ?_
                refine E.QG.code ?_
                refine E.CG.cond_f rfl ?_
                refine E.CG.skip ?_
                refine E.QG.block_normal ?_
                refine E.QG.code ?_
                refine E.CG.list ?_
                refine E.GL.run rfl rfl rfl (E.Runs.add rfl rfl rfl (E.u64_in _ (by omega))) ?_
                refine E.GL.run rfl rfl rfl (E.Runs.move rfl rfl) ?_
                refine E.GL.done ?_
                exact E.QG.round2 (d := (.slice none 0 0, none)) (i + 1) (_, some l) (E.subc rfl (E.subc rfl (E.subc rfl (E.subc rfl (E.subc rfl E.subn))))) (by first | exact ⟨by omega, R7, hv7, hLs.skip (of_mx hT hO2).not, b1, K, L⟩ | exact ⟨by omega, R11, (fun e => nomatch e), hLs.first hi8 hcn, b1, K, L⟩ | exact ⟨by omega, R11, (fun e => nomatch e), hLs.put hi8 hcn (.inl (by omega)), b1, K, L⟩ | exact ⟨by omega, R11, (fun e => nomatch e), hLs.put hi8 hcn (.inr ⟨by omega, hn56.mp h57⟩), b1, K, L⟩ | exact ⟨by omega, R7, (fun e => nomatch e), hLs.keep (fun e => e.elim (fun e => by omega) (fun e => by first | exact h57 (hn56.mpr e.2) | exact h52 (by have := e.1; omega))), b1, K, L⟩ | fail) (by omega)
            · refine E.GL.run rfl rfl rfl (E.Runs.move rfl rfl) ?_
              refine E.GL.skip rfl rfl rfl ?_
              refine E.GL.skip rfl rfl rfl ?_
              refine E.GL.skip rfl rfl rfl ?_
              refine E.GL.skip rfl rfl rfl ?_
              refine E.GL.run rfl rfl rfl (E.Runs.pick_f rfl rfl rfl) ?_
              refine E.GL.run rfl rfl rfl (E.Runs.pick_f rfl rfl rfl) ?_
              refine E.GL.done ?_
              refine E.QG.code ?_
              refine E.CG.cond_f rfl ?_
              refine E.CG.skip ?_
              refine E.QG.block_normal ?_
              refine E.QG.code ?_
              refine E.CG.list ?_
              refine E.GL.run rfl rfl rfl (E.Runs.add rfl rfl rfl (E.u64_in _ (by omega))) ?_
              refine E.GL.run rfl rfl rfl (E.Runs.move rfl rfl) ?_
              refine E.GL.done ?_
              exact E.QG.round2 (d := (.slice none 0 0, none)) (i + 1) (_, some l) (E.subc rfl (E.subc rfl (E.subc rfl (E.subc rfl (E.subc rfl E.subn))))) (by first | exact ⟨by omega, R7, hv7, hLs.skip (of_mx hT hO2).not, b1, K, L⟩ | exact ⟨by omega, R11, (fun e => nomatch e), hLs.first hi8 hcn, b1, K, L⟩ | exact ⟨by omega, R11, (fun e => nomatch e), hLs.put hi8 hcn (.inl (by omega)), b1, K, L⟩ | exact ⟨by omega, R11, (fun e => nomatch e), hLs.put hi8 hcn (.inr ⟨by omega, hn56.mp h57⟩), b1, K, L⟩ | exact ⟨by omega, R7, (fun e => nomatch e), hLs.keep (fun e => e.elim (fun e => by omega) (fun e => by first | exact h57 (hn56.mpr e.2) | exact h52 (by have := e.1; omega))), b1, K, L⟩ | fail) (by omega)
      · refine E.GL.run rfl rfl rfl (E.Runs.extract rfl rfl rfl) ?_
        refine E.GL.st rfl rfl rfl (E.ST.alloc rfl info62z fun g9 w9 e9 b9 l9 => ?_)
        have h9_L : w.heap.size ≤ g9 := by rw [e9]; exact L.size
        have h9_K : w14.heap.size ≤ g9 := by rw [e9]; exact K.size
        have n9_b1 : g1 ≠ g9 := by have := blk_lt b1; omega
        have n9_R7 : some g9 ≠ (v7).ownBlock := fun h => by have := Kd.R_lt R7 _ h.symm; omega
        replace b1 := blk_below b1 l9
        replace R7 := Kd.R_below R7 l9
        replace L := below_step L l9
        replace K := below_step K l9
        refine E.GL.store_whole rfl rfl rfl rfl rfl b9 rfl info62s (best_one _ _ _ _) fun wS10_7 c9 lS10_7 => ?_
        replace b1 := blk_grown b1 lS10_7 (E.nes (by first | assumption | exact Ne.symm (by assumption)))
        replace R7 := Kd.R_grown1 R7 rfl lS10_7 (by first | assumption | exact Kd.R_ne R7 b9 (by decide))
        replace L := E.below_own L h9_L lS10_7
        replace K := E.below_own K h9_K lS10_7
        replace b9 := c9
        clear c9
        refine E.GL.run rfl rfl rfl (E.Runs.assign rfl rfl) ?_
        refine E.GL.done ?_
        refine E.QG.code ?_
        refine E.CG.seq ?_
        refine E.CG.list ?_
        refine E.GL.run rfl rfl rfl (E.Runs.move rfl rfl) ?_
        refine E.GL.done ?_
        refine E.QG.code ?_
        refine E.CG.cond_t rfl ?_
        refine E.CG.exit ?_
        refine E.QG.pass_exit ?_
        refine E.QG.block_here ?_
        refine E.QG.code ?_
        refine E.CG.list ?_
        refine E.GL.run rfl rfl rfl (E.Runs.add rfl rfl rfl (E.u64_in _ (by omega))) ?_
        refine E.GL.run rfl rfl rfl (E.Runs.move rfl rfl) ?_
        refine E.GL.done ?_
        exact E.QG.round2 (d := (.slice none 0 0, none)) (i + 1) (v7, o) (E.subc rfl (E.subc rfl (E.subc rfl (E.subc rfl (E.subc rfl E.subn))))) (by first | exact ⟨by omega, R7, hv7, hLs.skip (of_mx hT hO2).not, b1, K, L⟩ | exact ⟨by omega, R11, (fun e => nomatch e), hLs.first hi8 hcn, b1, K, L⟩ | exact ⟨by omega, R11, (fun e => nomatch e), hLs.put hi8 hcn (.inl (by omega)), b1, K, L⟩ | exact ⟨by omega, R11, (fun e => nomatch e), hLs.put hi8 hcn (.inr ⟨by omega, hn56.mp h57⟩), b1, K, L⟩ | exact ⟨by omega, R7, (fun e => nomatch e), hLs.keep (fun e => e.elim (fun e => by omega) (fun e => by first | exact h57 (hn56.mpr e.2) | exact h52 (by have := e.1; omega))), b1, K, L⟩ | fail) (by omega)
    · obtain rfl : i = allS V + 1 := by omega
      refine E.GL.done ?_
      refine E.QG.code ?_
      refine E.CG.seq ?_
      refine E.CG.cond_f rfl ?_
      refine E.CG.exit ?_
      refine E.QG.pass_exit ?_
      refine E.QG.pass_exit ?_
      refine E.QG.block_here ?_
      refine E.QG.code ?_
      refine E.CG.seq ?_
      refine E.CG.list ?_
      refine E.GL.run rfl rfl rfl (E.Runs.move rfl rfl) ?_
      refine E.GL.run rfl rfl rfl (E.Runs.assign rfl rfl) ?_
      refine E.GL.run rfl rfl rfl (E.Runs.assign rfl rfl) ?_
      refine E.GL.done ?_
      refine E.QG.code ?_
      refine E.CG.ret ?_
      cases o with
      | none => exact absurd hmx (hLs _ (by omega))
      | some l => exact E.QG.result2 rfl rfl rfl ⟨_, l, _, rfl, R7, .inr (.inr ⟨ok, hmx, hLs, rfl⟩), L⟩

theorem runs_wo {N : Nat} {env : E.Env} {o : Oper} {w : World} {t u : TypeId} {x y : Operand} {V : Wk} {D : Nat} (ho : o.op = .binOp .andNot t x y u) (hx : E.Ev env x (.int .u64 ((2 ^ V.ds.length - 1 : Nat) : Int))) (hy : E.Ev env y (.int .u64 ((1 * 2 ^ D : Nat) : Int))) (ha : 2 ^ V.ds.length - 1 < 2 ^ 32) (hb : 1 * 2 ^ D < 2 ^ 32) : E.Runs Try.prog N env o w (.int .u64 ((woS V D : Nat) : Int)) := by
  have h := E.Runs.andNot (P := Try.prog) (w := w) (N := N) (.inl rfl) ho hx hy ha hb
  rw [show (2 ^ V.ds.length - 1 &&& (2 ^ V.ds.length - 1 ^^^ 1 * 2 ^ D)) = woS V D from by rw [Nat.one_mul]; rfl] at h
  exact h
set_option maxRecDepth 100000 in
set_option maxHeartbeats 8000000 in

theorem cost_calls (V : Wk) (m : Wa) (d : Int) (w : World) (hV : WM w V m) (hs : Sz V) :
    Calls Try.prog 19 #[wv V m, .int .i64 d] w fun e w' => ∃ n er, e = .returned (.tuple #[.int .i64 n, .int .i64 er]) ∧ CoOk V d n er ∧ Below w.heap.size w w' := by
  have hsd := hs.d
  have hu3 := Try.underlying3
  have hu22 := Try.underlying22
  have hu24 := Try.underlying24
  have hu26 := Try.underlying26
  have hu30 := Try.underlying30
  have hu60 := Try.underlying60
  have hu62 := Try.underlying62
  have hu63 := Try.underlying63
  have hu66 := Try.underlying66
  have hu68 := Try.underlying68
  obtain ⟨z3, o3⟩ := info_some info3s (by decide)
  obtain ⟨z22, o22⟩ := info_some info22s (by decide)
  obtain ⟨z24, o24⟩ := info_some info24s (by decide)
  obtain ⟨z62, o62⟩ := info_some info62s (by decide)
  refine E.enter (N := 48) Try.func19 rfl Try.ntmps19 (args := [wv V m, .int .i64 d]) (by simp) ?_
  have L := Below.refl w.heap.size w
  refine E.CG.seq ?_
  refine E.CG.list ?_
  refine E.GL.st rfl rfl rfl (E.ST.box rfl rfl fun g2 w2 e2 b2 l2 => ?_)
  have h2_L : w.heap.size ≤ g2 := by rw [e2]; exact L.size
  replace L := below_step L l2
  refine E.GL.run rfl rfl rfl (E.Runs.assign rfl rfl) ?_
  refine E.GL.run rfl rfl rfl (E.Runs.assign rfl rfl) ?_
  refine E.GL.done ?_
  refine E.QG.code ?_
  refine E.CG.seq ?_
  refine E.CG.seq ?_
  refine E.CG.list ?_
  refine E.GL.run rfl rfl rfl (E.Runs.loads (cs := [.int .i64 V.d, .slice m.A V.rs.length m.a, .int .i64 V.h, .slice m.B V.fs.length m.b, .slice m.C V.ds.length m.c]) rfl rfl hu26 rfl info26s (blk_cells b2)) ?_
  refine E.GL.st rfl rfl rfl (E.ST.call rfl ent31 (E.evc rfl E.evn) ((check_o V m _ (hV.below L) hs).mono ?_))
  rintro e w13 ⟨rfl, l13⟩
  refine ⟨_, rfl, ?_⟩
  replace b2 := blk_below b2 l13
  replace L := below_step L l13
  refine E.GL.run rfl rfl rfl (E.Runs.assign rfl rfl) ?_
  refine E.GL.done ?_
  refine E.QG.code ?_
  refine E.CG.seq ?_
  refine E.CG.list ?_
  refine E.GL.run rfl rfl rfl (E.Runs.move rfl rfl) ?_
  refine E.GL.cmpn rfl rfl rfl (fun _ h => (E.Runs.neq rfl rfl rfl h)) (fun h15 => ?_) (fun h15 => ?_)
  · have nok : ¬ WOk V := fun k => absurd (chk_ok.mpr k) (by omega)
    refine E.GL.done ?_
    refine E.QG.code ?_
    refine E.CG.cond_t rfl ?_
    refine E.CG.seq ?_
    refine E.CG.list ?_
    refine E.GL.run rfl rfl rfl (E.Runs.move rfl rfl) ?_
    refine E.GL.run rfl rfl rfl (E.Runs.assign rfl rfl) ?_
    refine E.GL.run rfl rfl rfl (E.Runs.assign rfl rfl) ?_
    refine E.GL.done ?_
    refine E.QG.code ?_
    refine E.CG.ret ?_
    refine E.QG.pass_ret ?_
    exact E.QG.result2 rfl rfl rfl ⟨_, _, rfl, .inl ⟨nok, rfl, rfl⟩, L⟩
  · have ok := chk_ok.mp (show chk V = 0 by omega)
    refine E.GL.done ?_
    refine E.QG.code ?_
    refine E.CG.cond_f rfl ?_
    refine E.CG.skip ?_
    refine E.QG.code ?_
    refine E.CG.seq ?_
    refine E.CG.seq ?_
    refine E.CG.list ?_
    refine E.GL.run rfl rfl rfl (E.Runs.move rfl rfl) ?_
    refine E.GL.run rfl rfl rfl (E.Runs.fieldAddr rfl rfl hu26 rfl (by assumption) rfl) ?_
    refine E.GL.run rfl rfl rfl (E.Runs.load1 rfl rfl hu24 rfl (by first | assumption | exact E.blkc (by assumption) rfl | exact pw_cell_below L (by assumption))) ?_
    refine E.GL.run rfl rfl rfl (E.Runs.len rfl rfl hu24) ?_
    refine E.GL.run rfl rfl rfl (E.Runs.sub rfl rfl rfl (IntWalk.i64_in _ (by omega))) ?_
    by_cases h22 : inR d 0 (V.ds.length - 1)
    · obtain ⟨D, rfl⟩ : ∃ D : Nat, d = D := ⟨d.toNat, by have := h22.1; omega⟩
      have hdl : D < V.ds.length := by have := h22.2; omega
      have hd8 := ok.s.ds
      have h2d : 2 ^ D ≤ 256 := (pow_8 (show D ≤ 8 by omega)).2
      have ha8 := allS_lt ok.s
      have ha9 : 2 ^ V.ds.length - 1 < 2 ^ 32 := by unfold allS at ha8; omega
      refine E.GL.st rfl rfl rfl (E.ST.call rfl ent46 (E.evc rfl (E.evc rfl (E.evc rfl E.evn))) ((within_o (D : Nat) 0 (V.ds.length - 1) true (iff_of_true rfl h22) _).mono ?_))
      rintro e w22 ⟨rfl, l22⟩
      refine ⟨_, rfl, ?_⟩
      replace b2 := blk_below b2 l22
      replace L := below_step L l22
      refine E.GL.run rfl rfl rfl (E.Runs.not rfl rfl) ?_
      refine E.GL.done ?_
      refine E.QG.code ?_
      refine E.CG.cond_f rfl ?_
      refine E.CG.skip ?_
      refine E.QG.code ?_
      refine E.CG.seq ?_
      refine E.CG.list ?_
      refine E.GL.run rfl rfl rfl (E.Runs.loads (cs := [.int .i64 V.d, .slice m.A V.rs.length m.a, .int .i64 V.h, .slice m.B V.fs.length m.b, .slice m.C V.ds.length m.c]) rfl rfl hu26 rfl info26s (blk_cells b2)) ?_
      refine E.GL.st rfl rfl rfl (E.ST.call rfl ent37 (E.evc rfl E.evn) ((search_calls V m _ (hV.below L) hs).mono ?_))
      rintro e w26 ⟨t, c, er, rfl, hS, l26⟩
      refine ⟨_, rfl, ?_⟩
      replace b2 := blk_below b2 l26
      replace L := below_step L l26
      have K := Below.refl w26.heap.size w26
      refine E.GL.run rfl rfl rfl (E.Runs.move rfl rfl) ?_
      rcases hS.three with ⟨nok, her, her0, her3⟩ | ⟨ok2, b, g, f, q, rfl, rfl, hM, hT, hmx, rfl⟩ | ⟨ok2, g, f, q, rfl, hM, hT, hmx, rfl⟩
      · exact absurd ok nok
      · refine E.GL.run rfl rfl rfl (E.Runs.extract rfl rfl rfl) ?_
        refine E.GL.run rfl rfl rfl (E.Runs.extract rfl rfl rfl) ?_
        refine E.GL.run rfl rfl rfl (E.Runs.extract rfl rfl rfl) ?_
        refine E.GL.st rfl rfl rfl (E.ST.alloc rfl info62z fun g8 w8 e8 b8 l8 => ?_)
        have h8_L : w.heap.size ≤ g8 := by rw [e8]; exact L.size
        have h8_K : w26.heap.size ≤ g8 := by rw [e8]; exact K.size
        have n8_b2 : g2 ≠ g8 := by have := blk_lt b2; omega
        replace b2 := blk_below b2 l8
        replace L := below_step L l8
        replace K := below_step K l8
        refine E.GL.run rfl rfl rfl (E.Runs.assign rfl rfl) ?_
        refine E.GL.store_whole rfl rfl rfl rfl rfl b8 rfl info62s (best_one _ _ _ _) fun wS6_8 c8 lS6_8 => ?_
        replace b2 := blk_grown b2 lS6_8 (E.nes (by first | assumption | exact Ne.symm (by assumption)))
        replace L := E.below_own L h8_L lS6_8
        replace K := E.below_own K h8_K lS6_8
        replace b8 := c8
        clear c8
        refine E.GL.run rfl rfl rfl (E.Runs.assign rfl rfl) ?_
        refine E.GL.done ?_
        refine E.QG.code ?_
        refine E.CG.seq ?_
        refine E.CG.seq ?_
        refine E.CG.list ?_
        refine E.GL.run rfl rfl rfl (E.Runs.move rfl rfl) ?_
        refine E.GL.run rfl rfl rfl (E.Runs.neq rfl rfl rfl (E.ne_f rfl)) ?_
        refine E.GL.done ?_
        refine E.QG.code ?_
        refine E.CG.cond_f rfl ?_
        refine E.CG.skip ?_
        refine E.QG.code ?_
        refine E.CG.seq ?_
        refine E.CG.heldH (none) (by kernel_rfl) fun v9 lD hh => ?_
        replace b2 := blk_below b2 lD
        replace b8 := blk_below b8 lD
        replace L := below_step L lD
        replace K := below_step K lD
        clear lD
        have s_b2 := b2
        have s_b8 := b8
        have s_L := L
        have s_K := K
        refine E.GH.take (i := 0) rfl (by kernel_rfl) (by kernel_rfl) (by kernel_rfl) (by intro c a d v w h; first | (cases d <;> exact h) | exact nomatch (show _ ∧ _ from h).1) rfl rfl rfl (fun w' hS => (E.Runs.move rfl rfl)) ?_
        refine E.GH.take (i := 1) rfl (by kernel_rfl) (by kernel_rfl) (by kernel_rfl) (by intro c a d v w h; first | (cases d <;> exact h) | exact nomatch (show _ ∧ _ from h).1) rfl rfl rfl (fun w' hS => (E.Runs.loads (cs := [.int .i64 V.d, .slice m.A V.rs.length m.a, .int .i64 V.h, .slice m.B V.fs.length m.b, .slice m.C V.ds.length m.c]) rfl rfl hu26 rfl info26s (blk_cells (blk_grown s_b2 hS E.nen)))) ?_
        refine E.GH.take (i := 3) rfl (by kernel_rfl) (by kernel_rfl) (by kernel_rfl) (by intro c a d v w h; first | (cases d <;> exact h) | exact nomatch (show _ ∧ _ from h).1) rfl rfl rfl (fun w' hS => (E.Runs.move rfl rfl)) ?_
        refine E.GH.take (i := 4) rfl (by kernel_rfl) (by kernel_rfl) (by kernel_rfl) (by intro c a d v w h; first | (cases d <;> exact h) | exact nomatch (show _ ∧ _ from h).1) rfl rfl rfl (fun w' hS => (E.Runs.shl (a := 1) (n := D) (.inl rfl) rfl rfl rfl (by omega) (by omega))) ?_
        refine E.GH.all (rs := [2, 10]) (by kernel_rfl) (by simp) (E.GHs.cons rfl ?_ (E.GHs.cons rfl ?_ E.GHs.nil))
        · refine E.GO.st rfl rfl rfl (E.ST.call rfl ent39 (E.evc rfl E.evn) ((all_calls V m _ ok.s.ds).mono ?_))
          rintro e w36 ⟨rfl, l36⟩
          refine ⟨_, rfl, hh.trans (E.gbB l36), ?_⟩
          replace hh := hh.trans (E.gbB l36)
          replace b2 := blk_below b2 l36
          replace b8 := blk_below b8 l36
          replace L := below_step L l36
          replace K := below_step K l36
          refine E.GH.take (i := 5) rfl (by kernel_rfl) (by kernel_rfl) (by kernel_rfl) (by intro c a d v w h; first | (cases d <;> exact h) | exact nomatch (show _ ∧ _ from h).1) rfl rfl rfl (fun w' hS => (runs_wo (V := V) (D := D) rfl rfl rfl ha9 (by omega))) ?_
          refine E.GH.all (rs := [6, 10]) (by kernel_rfl) (by simp) (E.GHs.cons rfl ?_ (E.GHs.cons rfl ?_ E.GHs.nil))
          · refine E.GO.st rfl rfl rfl (E.ST.call rfl ent40 (E.evc rfl (E.evc rfl E.evn)) ((of_calls g f (woS V D) _ (hM.below K) (tb_key ok.s hT) (wo_lt ok.s D)).mono ?_))
            rintro e w40 ⟨c2, rfl, hO2, l40⟩
            refine ⟨_, rfl, hh.trans (E.gbB l40), ?_⟩
            replace hh := hh.trans (E.gbB l40)
            replace b2 := blk_below b2 l40
            replace b8 := blk_below b8 l40
            replace L := below_step L l40
            replace K := below_step K l40
            refine E.GH.take (i := 7) rfl (by kernel_rfl) (by kernel_rfl) (by kernel_rfl) (by intro c a d v w h; first | (cases d <;> exact h) | exact nomatch (show _ ∧ _ from h).1) rfl rfl rfl (fun w' hS => (E.Runs.move rfl rfl)) ?_
            refine E.GH.take (i := 8) rfl (by kernel_rfl) (by kernel_rfl) (by kernel_rfl) (by intro c a d v w h; first | (cases d <;> exact h) | exact nomatch (show _ ∧ _ from h).1) rfl rfl rfl (fun w' hS => (E.Runs.extract rfl rfl rfl)) ?_
            refine E.GH.take (i := 9) rfl (by kernel_rfl) (by kernel_rfl) (by kernel_rfl) (by intro c a d v w h; first | (cases d <;> exact h) | exact nomatch (show _ ∧ _ from h).1) rfl rfl rfl (fun w' hS => (E.Runs.extract rfl rfl rfl)) ?_
            refine E.GH.one (i := 10) (by kernel_rfl) rfl ?_
            refine E.GO.st rfl rfl rfl (E.ST.alloc rfl info62z fun g10 w10 e10 b10 l10 => ⟨hh.trans (E.gbB l10), ?_⟩)
            have hh0 := hh
            replace hh := hh.trans (E.gbB l10)
            have h10_hh : v9.heap.size ≤ g10 := by rw [e10]; exact hh0.size
            have h10_L : w.heap.size ≤ g10 := by rw [e10]; exact L.size
            have h10_K : w26.heap.size ≤ g10 := by rw [e10]; exact K.size
            have n10_b2 : g2 ≠ g10 := by have := blk_lt b2; omega
            have n10_b8 : g8 ≠ g10 := by have := blk_lt b8; omega
            clear hh0
            replace b2 := blk_below b2 l10
            replace b8 := blk_below b8 l10
            replace L := below_step L l10
            replace K := below_step K l10
            refine E.GH.one (i := 11) (by kernel_rfl) rfl ?_
            refine E.GO.sn rfl rfl (E.ST.storeS (off := 0) (cells := [.slice (c2.getD b00).A (c2.getD b00).n (c2.getD b00).c, .int .i64 (c2.getD b00).t]) rfl rfl rfl b10 rfl info62s (best_one _ _ _ _) rfl fun wS9_11 c10 lS9_11 => ⟨E.gb_own hh h10_hh lS9_11, ?_⟩)
            replace hh := E.gb_own hh h10_hh lS9_11
            replace b2 := blk_grown b2 lS9_11 (E.nes (by first | assumption | exact Ne.symm (by assumption)))
            replace b8 := blk_grown b8 lS9_11 (E.nes (by first | assumption | exact Ne.symm (by assumption)))
            replace L := E.below_own L h10_L lS9_11
            replace K := E.below_own K h10_K lS9_11
            replace b10 := c10
            clear c10
            refine E.GH.take (i := 12) rfl (by kernel_rfl) (by kernel_rfl) (by kernel_rfl) (by intro c a d v w h; first | (cases d <;> exact h) | exact nomatch (show _ ∧ _ from h).1) rfl rfl rfl (fun w' hS => (E.Runs.assign rfl rfl)) ?_
            refine E.GH.done (by kernel_rfl) ?_
            refine E.QG.code ?_
            refine E.CG.seq ?_
            obtain ⟨y4, hy4⟩ := wo_kept hdl hmx (of_mx hT hO2)
            rcases c2 with _ | b4
            · cases hy4
            have hb4 : IsMx V (woS V D) (some b4.t) := of_mx hT hO2
            have hs1 := hmx.small ok.s
            have hs2 := hb4.small ok.s
            refine E.CG.list ?_
            refine E.GL.run rfl rfl rfl (E.Runs.fieldAddr rfl rfl hu62 rfl (by assumption) rfl) ?_
            refine E.GL.run rfl rfl rfl (E.Runs.load rfl rfl hu3 (by first | assumption | exact E.blkc (by assumption) rfl | exact pw_cell_below L (by assumption) | exact pw_cell_below K (by assumption))) ?_
            refine E.GL.run rfl rfl rfl (E.Runs.fieldAddr rfl rfl hu62 rfl (by assumption) rfl) ?_
            refine E.GL.run rfl rfl rfl (E.Runs.load rfl rfl hu3 (by first | assumption | exact E.blkc (by assumption) rfl | exact pw_cell_below L (by assumption) | exact pw_cell_below K (by assumption))) ?_
            refine E.GL.run rfl rfl rfl (E.Runs.sub rfl rfl rfl (IntWalk.i64_in _ (show -9223372036854775808 ≤ b4.t - b.t ∧ b4.t - b.t ≤ 9223372036854775807 from by omega))) ?_
            refine E.GL.run rfl rfl rfl (E.Runs.assign rfl rfl) ?_
            refine E.GL.run rfl rfl rfl (E.Runs.assign rfl rfl) ?_
            refine E.GL.done ?_
            refine E.QG.code ?_
            refine E.CG.ret ?_
            exact E.QG.result2 rfl rfl rfl ⟨_, _, rfl, .inr (.inr (.inr ⟨ok, h22, _, _, hmx, hb4, rfl, rfl⟩)), L⟩
          · refine E.GO.st rfl rfl rfl (E.ST.alloc rfl info62z fun g10 w10 e10 b10 l10 => ⟨hh.trans (E.gbB l10), ?_⟩)
            have hh0 := hh
            replace hh := hh.trans (E.gbB l10)
            have h10_hh : v9.heap.size ≤ g10 := by rw [e10]; exact hh0.size
            have h10_L : w.heap.size ≤ g10 := by rw [e10]; exact L.size
            have h10_K : w26.heap.size ≤ g10 := by rw [e10]; exact K.size
            have n10_b2 : g2 ≠ g10 := by have := blk_lt b2; omega
            have n10_b8 : g8 ≠ g10 := by have := blk_lt b8; omega
            clear hh0
            replace b2 := blk_below b2 l10
            replace b8 := blk_below b8 l10
            replace L := below_step L l10
            replace K := below_step K l10
            refine E.GH.one (i := 6) (by kernel_rfl) rfl ?_
            refine E.GO.st rfl rfl rfl (E.ST.call rfl ent40 (E.evc rfl (E.evc rfl E.evn)) ((of_calls g f (woS V D) _ (hM.below K) (tb_key ok.s hT) (wo_lt ok.s D)).mono ?_))
            rintro e w40 ⟨c2, rfl, hO2, l40⟩
            refine ⟨_, rfl, hh.trans (E.gbB l40), ?_⟩
            replace hh := hh.trans (E.gbB l40)
            replace b2 := blk_below b2 l40
            replace b8 := blk_below b8 l40
            replace b10 := blk_below b10 l40
            replace L := below_step L l40
            replace K := below_step K l40
            refine E.GH.take (i := 7) rfl (by kernel_rfl) (by kernel_rfl) (by kernel_rfl) (by intro c a d v w h; first | (cases d <;> exact h) | exact nomatch (show _ ∧ _ from h).1) rfl rfl rfl (fun w' hS => (E.Runs.move rfl rfl)) ?_
            refine E.GH.take (i := 8) rfl (by kernel_rfl) (by kernel_rfl) (by kernel_rfl) (by intro c a d v w h; first | (cases d <;> exact h) | exact nomatch (show _ ∧ _ from h).1) rfl rfl rfl (fun w' hS => (E.Runs.extract rfl rfl rfl)) ?_
            refine E.GH.take (i := 9) rfl (by kernel_rfl) (by kernel_rfl) (by kernel_rfl) (by intro c a d v w h; first | (cases d <;> exact h) | exact nomatch (show _ ∧ _ from h).1) rfl rfl rfl (fun w' hS => (E.Runs.extract rfl rfl rfl)) ?_
            refine E.GH.one (i := 11) (by kernel_rfl) rfl ?_
            refine E.GO.sn rfl rfl (E.ST.storeS (off := 0) (cells := [.slice (c2.getD b00).A (c2.getD b00).n (c2.getD b00).c, .int .i64 (c2.getD b00).t]) rfl rfl rfl b10 rfl info62s (best_one _ _ _ _) rfl fun wS9_11 c10 lS9_11 => ⟨E.gb_own hh h10_hh lS9_11, ?_⟩)
            replace hh := E.gb_own hh h10_hh lS9_11
            replace b2 := blk_grown b2 lS9_11 (E.nes (by first | assumption | exact Ne.symm (by assumption)))
            replace b8 := blk_grown b8 lS9_11 (E.nes (by first | assumption | exact Ne.symm (by assumption)))
            replace L := E.below_own L h10_L lS9_11
            replace K := E.below_own K h10_K lS9_11
            replace b10 := c10
            clear c10
            refine E.GH.take (i := 12) rfl (by kernel_rfl) (by kernel_rfl) (by kernel_rfl) (by intro c a d v w h; first | (cases d <;> exact h) | exact nomatch (show _ ∧ _ from h).1) rfl rfl rfl (fun w' hS => (E.Runs.assign rfl rfl)) ?_
            refine E.GH.done (by kernel_rfl) ?_
            refine E.QG.code ?_
            refine E.CG.seq ?_
            obtain ⟨y4, hy4⟩ := wo_kept hdl hmx (of_mx hT hO2)
            rcases c2 with _ | b4
            · cases hy4
            have hb4 : IsMx V (woS V D) (some b4.t) := of_mx hT hO2
            have hs1 := hmx.small ok.s
            have hs2 := hb4.small ok.s
            refine E.CG.list ?_
            refine E.GL.run rfl rfl rfl (E.Runs.fieldAddr rfl rfl hu62 rfl (by assumption) rfl) ?_
            refine E.GL.run rfl rfl rfl (E.Runs.load rfl rfl hu3 (by first | assumption | exact E.blkc (by assumption) rfl | exact pw_cell_below L (by assumption) | exact pw_cell_below K (by assumption))) ?_
            refine E.GL.run rfl rfl rfl (E.Runs.fieldAddr rfl rfl hu62 rfl (by assumption) rfl) ?_
            refine E.GL.run rfl rfl rfl (E.Runs.load rfl rfl hu3 (by first | assumption | exact E.blkc (by assumption) rfl | exact pw_cell_below L (by assumption) | exact pw_cell_below K (by assumption))) ?_
            refine E.GL.run rfl rfl rfl (E.Runs.sub rfl rfl rfl (IntWalk.i64_in _ (show -9223372036854775808 ≤ b4.t - b.t ∧ b4.t - b.t ≤ 9223372036854775807 from by omega))) ?_
            refine E.GL.run rfl rfl rfl (E.Runs.assign rfl rfl) ?_
            refine E.GL.run rfl rfl rfl (E.Runs.assign rfl rfl) ?_
            refine E.GL.done ?_
            refine E.QG.code ?_
            refine E.CG.ret ?_
            exact E.QG.result2 rfl rfl rfl ⟨_, _, rfl, .inr (.inr (.inr ⟨ok, h22, _, _, hmx, hb4, rfl, rfl⟩)), L⟩
        · refine E.GO.st rfl rfl rfl (E.ST.alloc rfl info62z fun g10 w10 e10 b10 l10 => ⟨hh.trans (E.gbB l10), ?_⟩)
          have hh0 := hh
          replace hh := hh.trans (E.gbB l10)
          have h10_hh : v9.heap.size ≤ g10 := by rw [e10]; exact hh0.size
          have h10_L : w.heap.size ≤ g10 := by rw [e10]; exact L.size
          have h10_K : w26.heap.size ≤ g10 := by rw [e10]; exact K.size
          have n10_b2 : g2 ≠ g10 := by have := blk_lt b2; omega
          have n10_b8 : g8 ≠ g10 := by have := blk_lt b8; omega
          clear hh0
          replace b2 := blk_below b2 l10
          replace b8 := blk_below b8 l10
          replace L := below_step L l10
          replace K := below_step K l10
          refine E.GH.one (i := 2) (by kernel_rfl) rfl ?_
          refine E.GO.st rfl rfl rfl (E.ST.call rfl ent39 (E.evc rfl E.evn) ((all_calls V m _ ok.s.ds).mono ?_))
          rintro e w36 ⟨rfl, l36⟩
          refine ⟨_, rfl, hh.trans (E.gbB l36), ?_⟩
          replace hh := hh.trans (E.gbB l36)
          replace b2 := blk_below b2 l36
          replace b8 := blk_below b8 l36
          replace b10 := blk_below b10 l36
          replace L := below_step L l36
          replace K := below_step K l36
          refine E.GH.take (i := 5) rfl (by kernel_rfl) (by kernel_rfl) (by kernel_rfl) (by intro c a d v w h; first | (cases d <;> exact h) | exact nomatch (show _ ∧ _ from h).1) rfl rfl rfl (fun w' hS => (runs_wo (V := V) (D := D) rfl rfl rfl ha9 (by omega))) ?_
          refine E.GH.one (i := 6) (by kernel_rfl) rfl ?_
          refine E.GO.st rfl rfl rfl (E.ST.call rfl ent40 (E.evc rfl (E.evc rfl E.evn)) ((of_calls g f (woS V D) _ (hM.below K) (tb_key ok.s hT) (wo_lt ok.s D)).mono ?_))
          rintro e w40 ⟨c2, rfl, hO2, l40⟩
          refine ⟨_, rfl, hh.trans (E.gbB l40), ?_⟩
          replace hh := hh.trans (E.gbB l40)
          replace b2 := blk_below b2 l40
          replace b8 := blk_below b8 l40
          replace b10 := blk_below b10 l40
          replace L := below_step L l40
          replace K := below_step K l40
          refine E.GH.take (i := 7) rfl (by kernel_rfl) (by kernel_rfl) (by kernel_rfl) (by intro c a d v w h; first | (cases d <;> exact h) | exact nomatch (show _ ∧ _ from h).1) rfl rfl rfl (fun w' hS => (E.Runs.move rfl rfl)) ?_
          refine E.GH.take (i := 8) rfl (by kernel_rfl) (by kernel_rfl) (by kernel_rfl) (by intro c a d v w h; first | (cases d <;> exact h) | exact nomatch (show _ ∧ _ from h).1) rfl rfl rfl (fun w' hS => (E.Runs.extract rfl rfl rfl)) ?_
          refine E.GH.take (i := 9) rfl (by kernel_rfl) (by kernel_rfl) (by kernel_rfl) (by intro c a d v w h; first | (cases d <;> exact h) | exact nomatch (show _ ∧ _ from h).1) rfl rfl rfl (fun w' hS => (E.Runs.extract rfl rfl rfl)) ?_
          refine E.GH.one (i := 11) (by kernel_rfl) rfl ?_
          refine E.GO.sn rfl rfl (E.ST.storeS (off := 0) (cells := [.slice (c2.getD b00).A (c2.getD b00).n (c2.getD b00).c, .int .i64 (c2.getD b00).t]) rfl rfl rfl b10 rfl info62s (best_one _ _ _ _) rfl fun wS9_11 c10 lS9_11 => ⟨E.gb_own hh h10_hh lS9_11, ?_⟩)
          replace hh := E.gb_own hh h10_hh lS9_11
          replace b2 := blk_grown b2 lS9_11 (E.nes (by first | assumption | exact Ne.symm (by assumption)))
          replace b8 := blk_grown b8 lS9_11 (E.nes (by first | assumption | exact Ne.symm (by assumption)))
          replace L := E.below_own L h10_L lS9_11
          replace K := E.below_own K h10_K lS9_11
          replace b10 := c10
          clear c10
          refine E.GH.take (i := 12) rfl (by kernel_rfl) (by kernel_rfl) (by kernel_rfl) (by intro c a d v w h; first | (cases d <;> exact h) | exact nomatch (show _ ∧ _ from h).1) rfl rfl rfl (fun w' hS => (E.Runs.assign rfl rfl)) ?_
          refine E.GH.done (by kernel_rfl) ?_
          refine E.QG.code ?_
          refine E.CG.seq ?_
          obtain ⟨y4, hy4⟩ := wo_kept hdl hmx (of_mx hT hO2)
          rcases c2 with _ | b4
          · cases hy4
          have hb4 : IsMx V (woS V D) (some b4.t) := of_mx hT hO2
          have hs1 := hmx.small ok.s
          have hs2 := hb4.small ok.s
          refine E.CG.list ?_
          refine E.GL.run rfl rfl rfl (E.Runs.fieldAddr rfl rfl hu62 rfl (by assumption) rfl) ?_
          refine E.GL.run rfl rfl rfl (E.Runs.load rfl rfl hu3 (by first | assumption | exact E.blkc (by assumption) rfl | exact pw_cell_below L (by assumption) | exact pw_cell_below K (by assumption))) ?_
          refine E.GL.run rfl rfl rfl (E.Runs.fieldAddr rfl rfl hu62 rfl (by assumption) rfl) ?_
          refine E.GL.run rfl rfl rfl (E.Runs.load rfl rfl hu3 (by first | assumption | exact E.blkc (by assumption) rfl | exact pw_cell_below L (by assumption) | exact pw_cell_below K (by assumption))) ?_
          refine E.GL.run rfl rfl rfl (E.Runs.sub rfl rfl rfl (IntWalk.i64_in _ (show -9223372036854775808 ≤ b4.t - b.t ∧ b4.t - b.t ≤ 9223372036854775807 from by omega))) ?_
          refine E.GL.run rfl rfl rfl (E.Runs.assign rfl rfl) ?_
          refine E.GL.run rfl rfl rfl (E.Runs.assign rfl rfl) ?_
          refine E.GL.done ?_
          refine E.QG.code ?_
          refine E.CG.ret ?_
          exact E.QG.result2 rfl rfl rfl ⟨_, _, rfl, .inr (.inr (.inr ⟨ok, h22, _, _, hmx, hb4, rfl, rfl⟩)), L⟩
      · refine E.GL.run rfl rfl rfl (E.Runs.extract rfl rfl rfl) ?_
        refine E.GL.run rfl rfl rfl (E.Runs.extract rfl rfl rfl) ?_
        refine E.GL.run rfl rfl rfl (E.Runs.extract rfl rfl rfl) ?_
        refine E.GL.st rfl rfl rfl (E.ST.alloc rfl info62z fun g8 w8 e8 b8 l8 => ?_)
        have h8_L : w.heap.size ≤ g8 := by rw [e8]; exact L.size
        have h8_K : w26.heap.size ≤ g8 := by rw [e8]; exact K.size
        have n8_b2 : g2 ≠ g8 := by have := blk_lt b2; omega
        replace b2 := blk_below b2 l8
        replace L := below_step L l8
        replace K := below_step K l8
        refine E.GL.run rfl rfl rfl (E.Runs.assign rfl rfl) ?_
        refine E.GL.store_whole rfl rfl rfl rfl rfl b8 rfl info62s (best_one _ _ _ _) fun wS6_8 c8 lS6_8 => ?_
        replace b2 := blk_grown b2 lS6_8 (E.nes (by first | assumption | exact Ne.symm (by assumption)))
        replace L := E.below_own L h8_L lS6_8
        replace K := E.below_own K h8_K lS6_8
        replace b8 := c8
        clear c8
        refine E.GL.run rfl rfl rfl (E.Runs.assign rfl rfl) ?_
        refine E.GL.done ?_
        refine E.QG.code ?_
        refine E.CG.seq ?_
        refine E.CG.seq ?_
        refine E.CG.list ?_
        refine E.GL.run rfl rfl rfl (E.Runs.move rfl rfl) ?_
        refine E.GL.run rfl rfl rfl (E.Runs.neq rfl rfl rfl (E.ne_t (by decide))) ?_
        refine E.GL.done ?_
        refine E.QG.code ?_
        refine E.CG.cond_t rfl ?_
        refine E.CG.seq ?_
        refine E.CG.list ?_
        refine E.GL.run rfl rfl rfl (E.Runs.move rfl rfl) ?_
        refine E.GL.run rfl rfl rfl (E.Runs.assign rfl rfl) ?_
        refine E.GL.run rfl rfl rfl (E.Runs.assign rfl rfl) ?_
        refine E.GL.done ?_
        refine E.QG.code ?_
        refine E.CG.ret ?_
        refine E.QG.pass_ret ?_
        exact E.QG.result2 rfl rfl rfl ⟨_, _, rfl, .inr (.inr (.inl ⟨ok, h22, hmx, rfl, rfl⟩)), L⟩
    · refine E.GL.st rfl rfl rfl (E.ST.call rfl ent46 (E.evc rfl (E.evc rfl (E.evc rfl E.evn))) ((within_o d 0 (V.ds.length - 1) false (iff_of_false Bool.false_ne_true h22) _).mono ?_))
      rintro e w22 ⟨rfl, l22⟩
      refine ⟨_, rfl, ?_⟩
      replace b2 := blk_below b2 l22
      replace L := below_step L l22
      refine E.GL.run rfl rfl rfl (E.Runs.not rfl rfl) ?_
      refine E.GL.done ?_
      refine E.QG.code ?_
      refine E.CG.cond_t rfl ?_
      refine E.CG.seq ?_
      refine E.CG.list ?_
      refine E.GL.run rfl rfl rfl (E.Runs.assign rfl rfl) ?_
      refine E.GL.run rfl rfl rfl (E.Runs.assign rfl rfl) ?_
      refine E.GL.done ?_
      refine E.QG.code ?_
      refine E.CG.ret ?_
      refine E.QG.pass_ret ?_
      exact E.QG.result2 rfl rfl rfl ⟨_, _, rfl, .inr (.inl ⟨ok, h22, rfl, rfl⟩), L⟩

end Go.Proofs.Ytdiambcjghlffaa.T
namespace Go.Proofs.Ytdiambcjghlffaa.T
open Go.RowKit Go.Proofs.YtdiambcjghlffaaW.PrintWords Go.Proofs.YtdiambcjghlffaaW.PrintMore
open Go.Proofs.Ytdiambcjghlffaa.P
set_option linter.unusedVariables false
set_option linter.unusedSimpArgs false

/-- A header of a slice. -/
structure Hd where
  A : Option Addr
  n : Nat
  c : Nat
def Hd.v (h : Hd) : Value := .slice h.A h.n h.c
def kH : Kd Hd := Kd.scalar Hd.v (fun _ => rfl)
/-- Rows of numbers, each by its header. -/
structure RowsOk (w : World) (hs : List Hd) (ps : List (List Int)) : Prop where
  len : hs.length = ps.length
  row : ∀ (i : Nat) (h : Hd) (p : List Int), hs[i]? = some h → ps[i]? = some p → Kd.R kI 3 w 0 (fun _ => True) h.v p
theorem RowsOk.none (w : World) : RowsOk w [] [] := ⟨rfl, fun i h p hh => by simp at hh⟩
theorem RowsOk.one {w : World} {h : Hd} {p : List Int} (k : Kd.R kI 3 w 0 (fun _ => True) h.v p) : RowsOk w [h] [p] := ⟨rfl, fun i h' p' hh hp => by
  rcases i with _ | i
  · simp at hh hp
    rw [← hh, ← hp]
    exact k
  · simp at hh⟩
theorem RowsOk.below {w w' : World} {hs : List Hd} {ps : List (List Int)} (h : RowsOk w hs ps) (l : Below w.heap.size w w') : RowsOk w' hs ps := ⟨h.len, fun i x p hx hp => Kd.R_below (h.row i x p hx hp) l⟩
theorem RowsOk.over {α : Type} {d : Kd α} {e base : Nat} {w w' : World} {hs : List Hd} {ps : List (List Int)} {u : Value} {ys : List α} (h : RowsOk w hs ps) (hu : d.R e w base (fun _ => True) u ys) (he : 3 ≠ e) (hg : w.grownBy w' u.ownBlock) : RowsOk w' hs ps :=
  ⟨h.len, fun i x p hx hp => E.R_over' (h.row i x p hx hp) hu (fun q hq => by rcases List.mem_cons.mp hq with h2 | h2; · rw [h2]; exact he
                                                                              · cases h2) hg⟩
/-- All programs that begin so, so many slots to go. -/
def allP (V : Wk) : Nat → List Int → List (List Int)
  | 0, first => [first]
  | k + 1, first => (List.range (V.fs.length + 1)).flatMap fun (j : Nat) => allP V k (first ++ [(j : Int) - 1])
theorem mem_allP {V : Wk} {p : List Int} : ∀ {k : Nat} {first : List Int}, p ∈ allP V k first ↔ ∃ t, p = first ++ t ∧ t.length = k ∧ AllR t (-1) (V.fs.length - 1)
  | 0, first => by
    unfold allP
    rw [List.mem_singleton]
    constructor
    · rintro rfl; exact ⟨[], by simp, rfl, fun x hx => by cases hx⟩
    · rintro ⟨t, rfl, ht, _⟩
      obtain rfl := List.length_eq_zero_iff.mp ht
      simp
  | k + 1, first => by
    unfold allP
    rw [List.mem_flatMap]
    constructor
    · rintro ⟨j, hj, hp⟩
      rw [List.mem_range] at hj
      obtain ⟨t, rfl, ht, hr⟩ := mem_allP.mp hp
      refine ⟨((j : Int) - 1) :: t, by simp, by simp [ht], fun x hx => ?_⟩
      rcases List.mem_cons.mp hx with rfl | hx
      · omega
      · exact hr x hx
    · rintro ⟨t, rfl, ht, hr⟩
      cases t with
      | nil => cases ht
      | cons x t =>
        have hx := hr x List.mem_cons_self
        refine ⟨(x + 1).toNat, List.mem_range.mpr (by omega), mem_allP.mpr ⟨t, ?_, by simpa using ht, fun y hy => hr y (List.mem_cons_of_mem _ hy)⟩⟩
        rw [show (((x + 1).toNat : Nat) : Int) - 1 = x by omega]
        simp
theorem allP_all {V : Wk} {p : List Int} : p ∈ allP V (Sl V) [] ↔ IsP V p := by
  rw [mem_allP]
  constructor
  · rintro ⟨t, rfl, ht, hr⟩; exact ⟨ht, hr⟩
  · rintro ⟨h, k⟩; exact ⟨p, rfl, h, k⟩
end Go.Proofs.Ytdiambcjghlffaa.T
namespace Go.Proofs.Ytdiambcjghlffaa.T
open Go.RowKit Go.Proofs.YtdiambcjghlffaaW.PrintWords Go.Proofs.YtdiambcjghlffaaW.PrintMore
open Go.Proofs.Ytdiambcjghlffaa.P
set_option linter.unusedVariables false
set_option linter.unusedSimpArgs false
/-- The greatest takings of some programs, of those that keep a set. -/
def MxIn (V : Wk) (s : Nat) (ps : List (List Int)) : Option Int → Prop
  | none => ∀ p ∈ ps, ¬ Kp V s p
  | some m => (∃ p ∈ ps, Kp V s p ∧ takes V p = m) ∧ ∀ p ∈ ps, Kp V s p → takes V p ≤ m
section
variable {V : Wk} {s : Nat} {ps : List (List Int)} {r : Option Int} {p : List Int}
theorem MxIn.skip (h : MxIn V s ps r) (hp : ¬ Kp V s p) : MxIn V s (ps ++ [p]) r := by
  cases r with
  | none =>
    intro q hq
    rcases List.mem_append.mp hq with h1 | h1
    · exact h q h1
    · rw [List.mem_singleton.mp h1]; exact hp
  | some m =>
    obtain ⟨⟨q, h1, h2⟩, h3⟩ := h
    refine ⟨⟨q, List.mem_append_left _ h1, h2⟩, fun q hq hk => ?_⟩
    rcases List.mem_append.mp hq with h4 | h4
    · exact h3 q h4 hk
    · rw [List.mem_singleton.mp h4] at hk; exact absurd hk hp
theorem MxIn.put (h : MxIn V s ps r) (hp : Kp V s p) (h0 : 0 ≤ takes V p) : MxIn V s (ps ++ [p]) (some (mx (r.getD (-1)) (takes V p))) := by
  have key : ∀ q, q ∈ ps ++ [p] → q ∈ ps ∨ q = p := fun q hq => by
    rcases List.mem_append.mp hq with h1 | h1
    · exact .inl h1
    · exact .inr (List.mem_singleton.mp h1)
  have hin : p ∈ ps ++ [p] := List.mem_append_right _ (List.mem_singleton.mpr rfl)
  cases r with
  | none =>
    have e : mx ((none : Option Int).getD (-1)) (takes V p) = takes V p := by show mx (-1) _ = _; unfold mx; rw [if_pos (by omega)]
    rw [e]
    refine ⟨⟨p, hin, hp, rfl⟩, fun q hq hk => ?_⟩
    rcases key q hq with h1 | h1
    · exact absurd hk (h q h1)
    · rw [h1]; exact Int.le_refl _
  | some m =>
    obtain ⟨⟨q, h1, h2, h3⟩, h4⟩ := h
    show MxIn V s (ps ++ [p]) (some (mx m (takes V p)))
    unfold mx
    split
    · refine ⟨⟨p, hin, hp, rfl⟩, fun q hq hk => ?_⟩
      rcases key q hq with h5 | h5
      · have := h4 q h5 hk; omega
      · rw [h5]; exact Int.le_refl _
    · refine ⟨⟨q, List.mem_append_left _ h1, h2, h3⟩, fun q hq hk => ?_⟩
      rcases key q hq with h5 | h5
      · exact h4 q h5 hk
      · rw [h5]; omega
theorem MxIn.all (h : MxIn V s (allP V (Sl V) []) r) : IsMx V s r := by
  cases r with
  | none => exact fun p hp => h p (allP_all.mpr hp)
  | some m =>
    obtain ⟨⟨q, h1, h2, h3⟩, h4⟩ := h
    exact ⟨⟨q, allP_all.mp h1, h2, h3⟩, fun p hp hk => h4 p (allP_all.mpr hp) hk⟩
end
/-- The sets that some programs keep. -/
def KsOk (V : Wk) (ps : List (List Int)) (ks : List Int) : Prop := ∀ a : Int, a ∈ ks ↔ ∃ p ∈ ps, a = ((mask V p : Nat) : Int)
theorem KsOk.put {V : Wk} {ps : List (List Int)} {ks : List Int} {p : List Int} (h : KsOk V ps ks) : KsOk V (ps ++ [p]) (ks ++ [((mask V p : Nat) : Int)]) := fun a => by
  rw [List.mem_append, List.mem_singleton, h a]
  constructor
  · rintro (⟨q, h1, h2⟩ | h1)
    · exact ⟨q, List.mem_append_left _ h1, h2⟩
    · exact ⟨p, List.mem_append_right _ (List.mem_singleton.mpr rfl), h1⟩
  · rintro ⟨q, h1, h2⟩
    rcases List.mem_append.mp h1 with h3 | h3
    · exact .inl ⟨q, h3, h2⟩
    · rw [List.mem_singleton.mp h3] at h2; exact .inr h2
theorem KsOk.skip {V : Wk} {ps : List (List Int)} {ks : List Int} {p : List Int} (h : KsOk V ps ks) (hp : ((mask V p : Nat) : Int) ∈ ks) : KsOk V (ps ++ [p]) ks := fun a => by
  rw [h a]
  constructor
  · rintro ⟨q, h1, h2⟩
    exact ⟨q, List.mem_append_left _ h1, h2⟩
  · rintro ⟨q, h1, h2⟩
    rcases List.mem_append.mp h1 with h3 | h3
    · exact ⟨q, h3, h2⟩
    · rw [List.mem_singleton.mp h3] at h2
      rw [h2]
      exact (h _).mp hp
/-- A set without some elements. -/
def Rm (n : Nat) (l : List Int) (s : Nat) : Prop := ∀ i : Nat, s.testBit i = true ↔ i < n ∧ (i : Int) ∉ l
theorem Rm.start (n : Nat) : Rm n [] (2 ^ n - 1) := fun i => by rw [Nat.testBit_two_pow_sub_one, decide_eq_true_eq]; simp
theorem Rm.more {n s x : Nat} {l : List Int} (h : Rm n l s) : Rm n (l ++ [(x : Int)]) (s &&& (s ^^^ (1 * 2 ^ x))) := fun i => by
  rw [Nat.one_mul, Nat.testBit_and, Nat.testBit_xor, Nat.testBit_two_pow, List.mem_append, List.mem_singleton]
  by_cases hi : s.testBit i = true
  · have h1 := (h i).mp hi
    rw [hi]
    by_cases e : x = i
    · subst e; simp
    · simp [e, h1.1, h1.2]
      intro q
      exact e (by omega)
  · have h1 : s.testBit i = false := by simpa using hi
    rw [h1]
    simp
    intro h2 h3
    exact absurd ((h i).mpr ⟨h2, h3⟩) hi
theorem Rm.lt {n s : Nat} {l : List Int} (h : Rm n l s) (hn : n ≤ 8) : s < 256 := by
  refine Nat.lt_of_lt_of_le (Nat.lt_pow_two_of_testBit s fun i hi => ?_) (pow_8 hn).2
  rw [Bool.eq_false_iff]
  intro hb
  have := ((h i).mp hb).1
  omega
end Go.Proofs.Ytdiambcjghlffaa.T
namespace Go.Proofs.Ytdiambcjghlffaa.T
open Go.RowKit Go.Proofs.YtdiambcjghlffaaW.PrintWords Go.Proofs.YtdiambcjghlffaaW.PrintMore
open Go.Proofs.Ytdiambcjghlffaa.P
set_option linter.unusedVariables false
set_option linter.unusedSimpArgs false

theorem KsOk.nil (V : Wk) : KsOk V [] [] := fun a => ⟨(fun h => by cases h), fun h => by obtain ⟨p, hp, _⟩ := h; cases hp⟩
end Go.Proofs.Ytdiambcjghlffaa.T
namespace Go.Proofs.Ytdiambcjghlffaa.T
open Go.RowKit Go.Proofs.YtdiambcjghlffaaW.PrintWords Go.Proofs.YtdiambcjghlffaaW.PrintMore
open Go.Proofs.Ytdiambcjghlffaa.P
set_option linter.unusedVariables false
set_option linter.unusedSimpArgs false

end Go.Proofs.Ytdiambcjghlffaa.T
namespace Go.Proofs.Ytdiambcjghlffaa.T
open Go.RowKit Go.Proofs.YtdiambcjghlffaaW.PrintWords Go.Proofs.YtdiambcjghlffaaW.PrintMore
open Go.Proofs.Ytdiambcjghlffaa.P
set_option linter.unusedVariables false
set_option linter.unusedSimpArgs false

/-- A film by its price and the header of its crowd. -/
structure Fh where
  p : Int
  h : Hd
def kFH : Kd Fh := Kd.iso (Kd.pair (Kd.int .i64) kH) (fun x : Fh => (x.p, x.h))
/-- The films' headers, and what they say. -/
structure FhOk (w : World) (xs : List Fh) (fs : List S49) : Prop where
  len : xs.length = fs.length
  row : ∀ (i : Nat) (x : Fh) (f : S49), xs[i]? = some x → fs[i]? = some f → x.p = f.f0 ∧ x.h.n = f.f1.length ∧ f.f1.length ≤ x.h.c ∧ Kd.C kI w x.h.A f.f1.length f.f1
theorem FhOk.below {w w' : World} {xs : List Fh} {fs : List S49} (h : FhOk w xs fs) (l : Below w.heap.size w w') : FhOk w' xs fs := ⟨h.len, fun i x f hx hf => by obtain ⟨a, b, c, d⟩ := h.row i x f hx hf; exact ⟨a, b, c, Kd.C_below d l⟩⟩
/-- Films whose first crowds are rows of our own. -/
structure Mid (w : World) (base i : Nat) (xs : List Fh) (fs : List S49) : Prop where
  len : xs.length = fs.length
  row : ∀ (j : Nat) (x : Fh) (f : S49), xs[j]? = some x → fs[j]? = some f → x.p = f.f0 ∧ (j < i → Kd.R kI 3 w base (fun _ => True) x.h.v f.f1)
theorem Mid.start {w w' : World} {base : Nat} {xs : List Fh} {fs : List S49} (h : FhOk w xs fs) : Mid w' base 0 xs fs := ⟨h.len, fun j x f hx hf => ⟨(h.row j x f hx hf).1, fun hj => by omega⟩⟩
theorem Mid.below {w w' : World} {base i : Nat} {xs : List Fh} {fs : List S49} (h : Mid w base i xs fs) (l : Below w.heap.size w w') : Mid w' base i xs fs := ⟨h.len, fun j x f hx hf => ⟨(h.row j x f hx hf).1, fun hj => Kd.R_below ((h.row j x f hx hf).2 hj) l⟩⟩
theorem Mid.over {w w' : World} {base i g t : Nat} {cs : Array Value} {xs : List Fh} {fs : List S49} (h : Mid w base i xs fs) (hb : w.heap[g]? = some (.cells cs t (0, 0))) (ht : 3 ≠ t) (hg : w.grownBy w' (some g)) : Mid w' base i xs fs := ⟨h.len, fun j x f hx hf => ⟨(h.row j x f hx hf).1, fun hj => Kd.R_grown1 ((h.row j x f hx hf).2 hj) rfl hg (Kd.R_ne ((h.row j x f hx hf).2 hj) hb ht)⟩⟩
theorem Mid.grown {w w' : World} {base i g : Nat} {xs : List Fh} {fs : List S49} (h : Mid w base i xs fs) (hg : w.grownBy w' (some g)) (hb : ∃ cs t, w.heap[g]? = some (.cells cs t (0, 0)) ∧ 3 ≠ t) : Mid w' base i xs fs := by
  obtain ⟨cs, t, hb, ht⟩ := hb
  exact h.over hb ht hg
theorem Mid.put {w : World} {base i : Nat} {xs : List Fh} {fs : List S49} {x : Fh} {f : S49} {y : Hd} (h : Mid w base i xs fs) (hx : xs[i]? = some x) (hf : fs[i]? = some f) (hy : Kd.R kI 3 w base (fun _ => True) y.v f.f1) : Mid w base (i + 1) (xs.set i ⟨x.p, y⟩) fs := by
  refine ⟨by rw [List.length_set]; exact h.len, fun j z k hz hk => ?_⟩
  by_cases e : i = j
  · subst e
    rw [List.getElem?_set_self (List.getElem?_eq_some_iff.1 hx).1] at hz
    injection hz with hz
    subst hz
    rw [hf] at hk
    injection hk with hk
    subst hk
    exact ⟨(h.row i x f hx hf).1, fun _ => hy⟩
  · rw [List.getElem?_set_ne e] at hz
    exact ⟨(h.row j z k hz hk).1, fun hj => (h.row j z k hz hk).2 (by omega)⟩
theorem Mid.ok {w : World} {base : Nat} {xs : List Fh} {fs : List S49} (h : Mid w base fs.length xs fs) : FhOk w xs fs := ⟨h.len, fun i x f hx hf => by
  obtain ⟨h1, h2⟩ := h.row i x f hx hf
  have := h2 (List.getElem?_eq_some_iff.1 hf).1
  obtain ⟨q1, q2, q3⟩ := Kd.R_reads' (show Kd.R kI 3 w base _ (.slice x.h.A x.h.n x.h.c) f.f1 from this)
  exact ⟨h1, q1, by omega, q3⟩⟩
/-- A week in rows of our own. -/
structure WR (bs : Nat) (w : World) (V : Wk) (m : Wa) : Prop where
  rs : Kd.R kI 3 w bs (fun _ => True) (.slice m.A V.rs.length m.a) V.rs
  fs : ∃ xs, Kd.R kFH 49 w bs (fun _ => True) (.slice m.B V.fs.length m.b) xs ∧ Mid w bs V.fs.length xs V.fs
  ds : Kd.R k45 45 w bs (fun _ => True) (.slice m.C V.ds.length m.c) V.ds
theorem WR.below {bs : Nat} {w w' : World} {V : Wk} {m : Wa} (h : WR bs w V m) (l : Below w.heap.size w w') : WR bs w' V m := by
  obtain ⟨xs, h1, h2⟩ := h.fs
  exact ⟨Kd.R_below h.rs l, ⟨xs, Kd.R_below h1 l, h2.below l⟩, Kd.R_below h.ds l⟩
end Go.Proofs.Ytdiambcjghlffaa.T
namespace Go.Proofs.Ytdiambcjghlffaa.T
open Go.RowKit Go.Proofs.YtdiambcjghlffaaW.PrintWords Go.Proofs.YtdiambcjghlffaaW.PrintMore
open Go.Proofs.Ytdiambcjghlffaa.P
set_option linter.unusedVariables false
set_option linter.unusedSimpArgs false
instance (V : Wk) (x : S45) (p : List Int) (day : Nat) : Decidable (Cln V x p day) := by
  unfold Cln
  exact decidable_of_iff (∃ r, r < V.rs.length ∧ (x.f6 ≤ V.rs.getD r 0 ∧ ∀ k, k < x.f5.toNat - x.f4.toNat + 1 → p.getD (slN V day r (x.f4.toNat + k)) 0 = x.f1)) Iff.rfl
instance (V : Wk) (x : S45) (p : List Int) : Decidable (Keep V x p) := by unfold Keep; infer_instance
abbrev eD0 : S45 := ⟨1, 1, 0, 0, 0, 1, 0, 2⟩
abbrev eD1 : S45 := ⟨3, 0, 0, 0, 0, 1, 100, 0⟩
theorem ex_ok : WOk eV := by decide
theorem ex_bad0 (p : List Int) : bad eV p 0 ↔ ¬ Keep eV eD0 p := bad_iff rfl
theorem ex_bad1 (p : List Int) : bad eV p 1 ↔ ¬ Keep eV eD1 p := bad_iff rfl
theorem ex_all (p : List Int) : Kp eV (allS eV) p ↔ Keep eV eD0 p ∧ Keep eV eD1 p := by
  rw [kp_all]
  constructor
  · intro h
    exact ⟨Classical.byContradiction fun q => h 0 (by decide) ((ex_bad0 p).mpr q), Classical.byContradiction fun q => h 1 (by decide) ((ex_bad1 p).mpr q)⟩
  · rintro ⟨h1, h2⟩ i hi
    rcases i with _ | _ | i
    · exact fun q => (ex_bad0 p).mp q h1
    · exact fun q => (ex_bad1 p).mp q h2
    · exact absurd hi (by show ¬ i + 2 < 2; omega)
theorem ex_wo (p : List Int) : Kp eV (woS eV 0) p ↔ Keep eV eD1 p := by
  have hb := fun i => without_bit eV (show 0 < eV.ds.length by decide) i
  constructor
  · intro h
    exact Classical.byContradiction fun q => (h 1 ((hb 1).mpr ⟨by decide, by decide⟩)).2 ((ex_bad1 p).mpr q)
  · intro h i hi
    obtain ⟨h1, h2⟩ := (hb i).mp hi
    refine ⟨h1, ?_⟩
    rcases i with _ | _ | i
    · exact absurd rfl h2
    · exact fun q => (ex_bad1 p).mp q h
    · exact absurd h1 (by show ¬ i + 2 < 2; omega)
theorem ex_check1 : ∀ p ∈ allP eV (Sl eV) [], Keep eV eD0 p ∧ Keep eV eD1 p → takes eV p ≤ 2520 := by decide +kernel
theorem ex_check2 : ∀ p ∈ allP eV (Sl eV) [], Keep eV eD1 p → takes eV p ≤ 2800 := by decide +kernel
theorem ex_mx : IsMx eV (allS eV) (some 2520) :=
  ⟨⟨[0, 0, 1, 1], by decide, (ex_all _).mpr (by decide +kernel), by decide +kernel⟩, fun p hp hk => ex_check1 p (allP_all.mpr hp) ((ex_all p).mp hk)⟩
theorem ex_mx2 : IsMx eV (woS eV 0) (some 2800) :=
  ⟨⟨[0, 0, 0, 0], by decide, (ex_wo _).mpr (by decide +kernel), by decide +kernel⟩, fun p hp hk => ex_check2 p (allP_all.mpr hp) ((ex_wo p).mp hk)⟩
theorem ex_most {n e : Int} (h : MostOk eV n e) : n = 2520 ∧ e = 0 := h.one (.inr ⟨ex_ok, some 2520, ex_mx, rfl, rfl⟩)
theorem ex_cost {n e : Int} (h : CoOk eV 0 n e) : n = 280 ∧ e = 0 := h.one (.inr (.inr (.inr ⟨ex_ok, by decide, 2520, 2800, ex_mx, ex_mx2, rfl, rfl⟩)))
theorem ex_clash {l : List Int} {e : Int} (h : ClOk eV l e) : e = 3 := (h.one (.inr (.inl ⟨ex_ok, ⟨_, ex_mx⟩, rfl, rfl⟩))).2
theorem ex_chk : chkP eV [0, 1, 0, -1] = 0 := chkP_ok.mpr ⟨ex_ok, by decide⟩
theorem ex_brk : brA eV [0, 1, 0, -1] = [0, 1] := by
  unfold brA
  rw [if_pos ex_chk]
  show brk eV _ (1 + 1) = _
  rw [brk_no (x := eD1) rfl (by decide +kernel), show (1 : Nat) = 0 + 1 from rfl, brk_no (x := eD0) rfl (by decide +kernel)]
  rfl
theorem ex_sz : Sz eV := ⟨by decide, by decide, by decide, by decide⟩
end Go.Proofs.Ytdiambcjghlffaa.T
namespace Go.Proofs.Ytdiambcjghlffaa.T
open Go.RowKit Go.Proofs.YtdiambcjghlffaaW.PrintWords Go.Proofs.YtdiambcjghlffaaW.PrintMore
open Go.Proofs.Ytdiambcjghlffaa.P
set_option linter.unusedVariables false
set_option linter.unusedSimpArgs false

set_option maxRecDepth 100000 in
theorem lit22_4 (a b c d : Int) (W : World) : (Instr.buildSlice 22 4 #[(0, .int .i64 a), (1, .int .i64 b), (2, .int .i64 c), (3, .int .i64 d)]).run Try.prog W = .ok (.slice (some ⟨W.heap.size, 0, none⟩) 4 4) (W.alloc (.cells (([a, b, c, d] : List Int).map (Value.int .i64)).toArray 3 (0, 0))) := by
  have hu22 := Try.underlying22
  go_simp
set_option maxRecDepth 100000 in
set_option maxHeartbeats 8000000 in

theorem works_calls (w : World) :
    Calls Try.prog 13 #[] w fun e w' => e = .returned (.bool true) ∧ Below w.heap.size w w' := by
  have hu3 := Try.underlying3
  have hu22 := Try.underlying22
  have hu26 := Try.underlying26
  have hu30 := Try.underlying30
  have hu31 := Try.underlying31
  have hu33 := Try.underlying33
  obtain ⟨z3, o3⟩ := info_some info3s (by decide)
  obtain ⟨z22, o22⟩ := info_some info22s (by decide)
  obtain ⟨z26, o26⟩ := info_some info26s (by decide)
  refine E.enter (N := 59) Try.func13 rfl Try.ntmps13 (args := []) (by simp) ?_
  have L := Below.refl w.heap.size w
  refine E.CG.seq ?_
  refine E.CG.list ?_
  refine E.GL.run rfl rfl rfl (E.Runs.assign rfl rfl) ?_
  refine E.GL.done ?_
  refine E.QG.code ?_
  refine E.CG.seq ?_
  refine E.CG.list ?_
  refine E.GL.st rfl rfl rfl (E.ST.call rfl ent36 E.evn ((example_calls _).mono ?_))
  rintro e w10 ⟨m, rfl, hV, l10⟩
  refine ⟨_, rfl, ?_⟩
  replace L := below_step L l10
  have K := Below.refl w10.heap.size w10
  refine E.GL.st rfl rfl rfl (E.ST.alloc rfl info26z fun g1 w1 e1 b1 l1 => ?_)
  have h1_L : w.heap.size ≤ g1 := by rw [e1]; exact L.size
  have h1_K : w10.heap.size ≤ g1 := by rw [e1]; exact K.size
  replace L := below_step L l1
  replace K := below_step K l1
  refine E.GL.store_whole rfl rfl rfl rfl rfl b1 rfl info26s (week_one _ _ _ _ _ _ _ _ _ _ _) fun wS1_2 c1 lS1_2 => ?_
  replace L := E.below_own L h1_L lS1_2
  replace K := E.below_own K h1_K lS1_2
  replace b1 := c1
  clear c1
  refine E.GL.done ?_
  refine E.QG.code ?_
  refine E.CG.seq ?_
  refine E.CG.list ?_
  refine E.GL.run rfl rfl rfl (E.Runs.loads (cs := [.int .i64 eV.d, .slice m.A eV.rs.length m.a, .int .i64 eV.h, .slice m.B eV.fs.length m.b, .slice m.C eV.ds.length m.c]) rfl rfl hu26 rfl info26s (blk_cells b1)) ?_
  refine E.GL.st rfl rfl rfl (E.ST.call rfl ent15 (E.evc rfl E.evn) ((most_calls eV m _ (hV.below K) ex_sz).mono ?_))
  rintro e w13 ⟨n13, e13, rfl, hm13, l13⟩
  refine ⟨_, rfl, ?_⟩
  replace b1 := blk_below b1 l13
  replace L := below_step L l13
  replace K := below_step K l13
  obtain ⟨rfl, rfl⟩ := ex_most hm13
  refine E.GL.run rfl rfl rfl (E.Runs.move rfl rfl) ?_
  refine E.GL.run rfl rfl rfl (E.Runs.extract rfl rfl rfl) ?_
  refine E.GL.run rfl rfl rfl (E.Runs.extract rfl rfl rfl) ?_
  refine E.GL.run rfl rfl rfl (E.Runs.assign rfl rfl) ?_
  refine E.GL.run rfl rfl rfl (E.Runs.assign rfl rfl) ?_
  refine E.GL.done ?_
  refine E.QG.code ?_
  refine E.CG.seq ?_
  refine E.CG.list ?_
  refine E.GL.run rfl rfl rfl (E.Runs.loads (cs := [.int .i64 eV.d, .slice m.A eV.rs.length m.a, .int .i64 eV.h, .slice m.B eV.fs.length m.b, .slice m.C eV.ds.length m.c]) rfl rfl hu26 rfl info26s (blk_cells b1)) ?_
  refine E.GL.st rfl rfl rfl (E.ST.litB (cs := (([0, 1, 0, -1] : List Int).map (Value.int .i64)).toArray) rfl (E.epc rfl (E.epc rfl (E.epc rfl (E.epc rfl E.epn)))) (lit22_4 _ _ _ _) fun g18 w18 e18 b18 l18 => ?_)
  replace b1 := blk_below b1 l18
  replace L := below_step L l18
  replace K := below_step K l18
  refine E.GL.st rfl rfl rfl (E.ST.call rfl ent25 (E.evc rfl (E.evc rfl E.evn)) ((broken_o eV m ([0, 1, 0, -1] : List Int) _ 4 _ (hV.below K) ex_sz (C_nums ([0, 1, 0, -1] : List Int) b18 (by decide)) (by decide)).mono ?_))
  rintro e w19 ⟨v19, rfl, R19, l19⟩
  refine ⟨_, rfl, ?_⟩
  replace b1 := blk_below b1 l19
  replace L := below_step L l19
  replace K := below_step K l19
  rw [ex_chk]
  rw [ex_brk] at R19
  obtain ⟨A19, c19, hv19⟩ := Kd.R_slice R19
  subst hv19
  refine E.GL.run rfl rfl rfl (E.Runs.move rfl rfl) ?_
  refine E.GL.run rfl rfl rfl (E.Runs.extract rfl rfl rfl) ?_
  refine E.GL.run rfl rfl rfl (E.Runs.extract rfl rfl rfl) ?_
  refine E.GL.run rfl rfl rfl (E.Runs.assign rfl rfl) ?_
  refine E.GL.run rfl rfl rfl (E.Runs.assign rfl rfl) ?_
  refine E.GL.done ?_
  refine E.QG.code ?_
  refine E.CG.seq ?_
  refine E.CG.list ?_
  refine E.GL.run rfl rfl rfl (E.Runs.loads (cs := [.int .i64 eV.d, .slice m.A eV.rs.length m.a, .int .i64 eV.h, .slice m.B eV.fs.length m.b, .slice m.C eV.ds.length m.c]) rfl rfl hu26 rfl info26s (blk_cells b1)) ?_
  refine E.GL.st rfl rfl rfl (E.ST.call rfl ent19 (E.evc rfl (E.evc rfl E.evn)) ((cost_calls eV m 0 _ (hV.below K) ex_sz).mono ?_))
  rintro e w24 ⟨n24, e24, rfl, hm24, l24⟩
  refine ⟨_, rfl, ?_⟩
  replace b1 := blk_below b1 l24
  replace R19 := Kd.R_below R19 l24
  replace L := below_step L l24
  replace K := below_step K l24
  obtain ⟨rfl, rfl⟩ := ex_cost hm24
  refine E.GL.run rfl rfl rfl (E.Runs.move rfl rfl) ?_
  refine E.GL.run rfl rfl rfl (E.Runs.extract rfl rfl rfl) ?_
  refine E.GL.run rfl rfl rfl (E.Runs.extract rfl rfl rfl) ?_
  refine E.GL.run rfl rfl rfl (E.Runs.assign rfl rfl) ?_
  refine E.GL.run rfl rfl rfl (E.Runs.assign rfl rfl) ?_
  refine E.GL.done ?_
  refine E.QG.code ?_
  refine E.CG.seq ?_
  refine E.CG.list ?_
  refine E.GL.run rfl rfl rfl (E.Runs.loads (cs := [.int .i64 eV.d, .slice m.A eV.rs.length m.a, .int .i64 eV.h, .slice m.B eV.fs.length m.b, .slice m.C eV.ds.length m.c]) rfl rfl hu26 rfl info26s (blk_cells b1)) ?_
  refine E.GL.st rfl rfl rfl (E.ST.call rfl ent17 (E.evc rfl E.evn) ((clash_calls eV m _ (hV.below K) ex_sz).mono ?_))
  rintro e w29 ⟨v29, l29', e29, rfl, R29, hm29, l29⟩
  refine ⟨_, rfl, ?_⟩
  replace b1 := blk_below b1 l29
  replace R19 := Kd.R_below R19 l29
  replace L := below_step L l29
  replace K := below_step K l29
  obtain rfl := ex_clash hm29
  refine E.GL.run rfl rfl rfl (E.Runs.move rfl rfl) ?_
  refine E.GL.run rfl rfl rfl (E.Runs.extract rfl rfl rfl) ?_
  refine E.GL.run rfl rfl rfl (E.Runs.extract rfl rfl rfl) ?_
  refine E.GL.run rfl rfl rfl (E.Runs.assign rfl rfl) ?_
  refine E.GL.run rfl rfl rfl (E.Runs.assign rfl rfl) ?_
  refine E.GL.done ?_
  refine E.QG.code ?_
  refine E.CG.seq ?_
  refine E.CG.list ?_
  refine E.GL.run rfl rfl rfl (E.Runs.move rfl rfl) ?_
  refine E.GL.run rfl rfl rfl (E.Runs.eql rfl rfl rfl (decide_eq_true rfl)) ?_
  refine E.GL.run rfl rfl rfl (E.Runs.move rfl rfl) ?_
  refine E.GL.run rfl rfl rfl (E.Runs.move rfl rfl) ?_
  refine E.GL.run rfl rfl rfl (E.Runs.eql rfl rfl rfl (decide_eq_true rfl)) ?_
  refine E.GL.run rfl rfl rfl (E.Runs.pick_t rfl rfl rfl) ?_
  refine E.GL.run rfl rfl rfl (E.Runs.move rfl rfl) ?_
  refine E.GL.run rfl rfl rfl (E.Runs.move rfl rfl) ?_
  refine E.GL.run rfl rfl rfl (E.Runs.eql rfl rfl rfl (decide_eq_true rfl)) ?_
  refine E.GL.run rfl rfl rfl (E.Runs.pick_t rfl rfl rfl) ?_
  refine E.GL.run rfl rfl rfl (E.Runs.move rfl rfl) ?_
  refine E.GL.run rfl rfl rfl (E.Runs.move rfl rfl) ?_
  refine E.GL.run rfl rfl rfl (E.Runs.eql rfl rfl rfl (decide_eq_true rfl)) ?_
  refine E.GL.run rfl rfl rfl (E.Runs.pick_t rfl rfl rfl) ?_
  refine E.GL.run rfl rfl rfl (E.Runs.move rfl rfl) ?_
  refine E.GL.run rfl rfl rfl (E.Runs.move rfl rfl) ?_
  refine E.GL.run rfl rfl rfl (E.Runs.eql rfl rfl rfl (decide_eq_true rfl)) ?_
  refine E.GL.run rfl rfl rfl (E.Runs.pick_t rfl rfl rfl) ?_
  refine E.GL.run rfl rfl rfl (E.Runs.move rfl rfl) ?_
  refine E.GL.run rfl rfl rfl (E.Runs.move rfl rfl) ?_
  refine E.GL.st rfl rfl rfl (E.ST.litB (cs := (([0, 1] : List Int).map (Value.int .i64)).toArray) rfl (E.epc rfl (E.epc rfl E.epn)) (lit22_2 _ _) fun g52 w52 e52 b52 l52 => ?_)
  replace b1 := blk_below b1 l52
  replace K := below_step K l52
  replace L := below_step L l52
  replace R19 := Kd.R_below R19 l52
  refine E.GL.st rfl rfl rfl (E.ST.call rfl ent21 (E.evc rfl (E.evc rfl E.evn)) ((same_calls ([0, 1] : List Int) ([0, 1] : List Int) A19 _ c19 2 _ true (iff_of_true rfl rfl) (Kd.R_reads' R19).2.2 (C_nums [0, 1] b52 (by decide)) (by decide)).mono ?_))
  rintro e w53 ⟨rfl, l53⟩
  refine ⟨_, rfl, ?_⟩
  replace b1 := blk_below b1 l53
  replace R19 := Kd.R_below R19 l53
  replace L := below_step L l53
  replace K := below_step K l53
  refine E.GL.run rfl rfl rfl (E.Runs.pick_t rfl rfl rfl) ?_
  refine E.GL.run rfl rfl rfl (E.Runs.move rfl rfl) ?_
  refine E.GL.run rfl rfl rfl (E.Runs.move rfl rfl) ?_
  refine E.GL.run rfl rfl rfl (E.Runs.eql rfl rfl rfl (decide_eq_true rfl)) ?_
  refine E.GL.run rfl rfl rfl (E.Runs.pick_t rfl rfl rfl) ?_
  refine E.GL.run rfl rfl rfl (E.Runs.assign rfl rfl) ?_
  refine E.GL.done ?_
  refine E.QG.code ?_
  refine E.CG.ret ?_
  exact E.QG.result rfl rfl ⟨rfl, L⟩

end Go.Proofs.Ytdiambcjghlffaa.T
namespace Go.Proofs.Ytdiambcjghlffaa.T
open Go.ChangeShapes Go.WideShapes Go.ChangeAt Go.Deep
open Go.RowKit Go.Proofs.YtdiambcjghlffaaW.PrintWords Go.Proofs.YtdiambcjghlffaaW.PrintMore
open Go.Proofs.Ytdiambcjghlffaa.P
set_option linter.unusedVariables false
set_option linter.unusedSimpArgs false

section
variable {X : Type} {enc : TypeId × Value → X} {w : World} {base : Nat} {spare : Nat → Bool} {held : Bool}
theorem fld {fs : Array Field} {n : Nat} {cs : List Value} {xs : List (DataW X × List MemPlace)} (hlen : xs.length = fs.size) (hg : ∀ (i : Nat) (f : Field), fs[i]? = some f → DataW.trod enc Try.prog w base spare held n f.type ((cs.drop f.offset).take (Try.prog.cellsOf f.type)) = xs[i]?) (i : Nat) (f : Field) (hf : fs[i]? = some f)
    (ty : TypeId) (off k : Nat) (h1 : f.type = ty) (h2 : f.offset = off) (h3 : Try.prog.cellsOf ty = k) :
    ∃ y, DataW.trod enc Try.prog w base spare held n ty ((cs.drop off).take k) = some y := by
  have hi : i < xs.length := by rw [hlen]; exact (Array.getElem?_eq_some_iff.1 hf).1
  subst h1 h2 h3
  exact ⟨_, (hg i f hf).trans (List.getElem?_eq_getElem hi)⟩

theorem ocells3 : Try.prog.cellsOf 3 = 1 := by kernel_rfl

theorem trod3 {n : Nat} {cs : List Value} {x : DataW X × List MemPlace} (h : DataW.trod enc Try.prog w base spare held n 3 cs = some x) : ∃ (a : Int), cs = [.int .i64 a] := by
  obtain ⟨a, hc, _⟩ := DataW.trod_int Try.underlying3 h
  exact ⟨a, hc⟩

theorem ocells22 : Try.prog.cellsOf 22 = 1 := by kernel_rfl

theorem trod22 {n : Nat} {cs : List Value} {x : DataW X × List MemPlace} (h : DataW.trod enc Try.prog w base spare held n 22 cs = some x) : ∃ (aA : Option Addr) (ac : Nat) (al : List Int), cs = [.slice aA al.length ac] ∧ al.length ≤ ac ∧ Kd.C (Kd.int .i64) w aA al.length al := by
  rcases open_slice Try.underlying22 h with ⟨rfl, _⟩ | ⟨a, len, cap, m, k, D, Pl, rfl, hb, hl, hm, hmm, hx, hi⟩
  · exact ⟨none, 0, [], rfl, Nat.le_refl _, rfl, by simp, fun h => absurd h (by simp)⟩
  · have hlm : len ≤ m := by rw [hmm]; split <;> omega
    have H : ∀ i, i < len → ∃ s : Int, w.cells? base (a.add (i * 1)) 1 = some [.int .i64 s] := by
      intro i hil
      obtain ⟨cs', hc, ht⟩ := hi i (by omega)
      obtain ⟨a, rfl⟩ := trod3 ht
      rw [ocells3] at hc
      exact ⟨a, hc⟩
    obtain ⟨F, hF⟩ : ∃ F : Nat → Int, ∀ i, i < len → w.cells? base (a.add (i * 1)) 1 = some [.int .i64 (F i)] := by
      refine ⟨fun i => if h : i < len then (H i h).choose else 0, fun i h => ?_⟩
      simp only [dif_pos h]
      exact (H i h).choose_spec
    refine ⟨some a, cap, (List.range len).map F, by simp, by simpa using hl, ?_, ?_, ?_⟩
    · rfl
    · simp only [List.length_map, List.length_range]
      unfold maxLen at hm
      omega
    · intro _
      refine ⟨a, rfl, fun j p hj => ?_⟩
      have hjl : j < len := by
        have := (List.getElem?_eq_some_iff.1 hj).1
        simpa using this
      have hp : p = F j := by
        rw [List.getElem?_map, List.getElem?_range hjl] at hj
        simpa using hj.symm
      subst hp
      refine ⟨[.int .i64 (F j)], rfl, rfl, ?_⟩
      intro i u hu
      obtain ⟨_, hcl, hat⟩ := World.cells?_some (hF j hjl)
      have hil : i < 1 := (List.getElem?_eq_some_iff.1 hu).1
      have := hat i hil
      rw [Go.Deep.add_add] at this
      rw [show j * ((Kd.int .i64)).sz + i = j * 1 + i from rfl, this, hu]

set_option maxRecDepth 100000 in
theorem ints_open {r : Reach} {b0 : Nat} {v : Value} {d : DataW X} {p : List MemPlace} (hval : Value.okWide Try.prog w r b0 22 v) (h : DataW.Trod enc Try.prog w base spare held 22 v d p) : ∃ (aA : Option Addr) (ac : Nat) (al : List Int), v = .slice aA al.length ac ∧ al.length ≤ ac ∧ Kd.C (Kd.int .i64) w aA al.length al := by
  obtain ⟨A, n, c, rfl⟩ := okWide_slice Try.underlying22 hval
  obtain ⟨k, hk⟩ := h
  obtain ⟨A', c', l, he, h1, h2⟩ := trod22 hk
  simp only [Value.cells, List.cons.injEq, Value.slice.injEq, and_true] at he
  obtain ⟨rfl, rfl, rfl⟩ := he
  exact ⟨A, c, l, rfl, h1, h2⟩

theorem ocells26 : Try.prog.cellsOf 26 = 5 := by kernel_rfl

theorem ocells23 : Try.prog.cellsOf 23 = 1 := by kernel_rfl

theorem ocells49 : Try.prog.cellsOf 49 = 2 := by kernel_rfl

theorem list_of2 {cs : List Value} (h : cs.length = 2) : ∃ v0 v1, cs = [v0, v1] := by
  match cs, h with
  | [v0, v1], _ => exact ⟨v0, v1, rfl⟩

theorem trod49 {n : Nat} {cs : List Value} {x : DataW X × List MemPlace} (h : DataW.trod enc Try.prog w base spare held n 49 cs = some x) : ∃ (a_0 : Int) (a_1A : Option Addr) (a_1c : Nat) (a_1l : List Int), cs = [.int .i64 a_0, .slice a_1A a_1l.length a_1c] ∧ a_1l.length ≤ a_1c ∧ Kd.C (Kd.int .i64) w a_1A a_1l.length a_1l := by
  obtain ⟨xs, m, _, hx, hl, hlen, hg⟩ := DataW.trod_struct Try.underlying49 h
  rw [ocells49] at hl
  obtain ⟨v0, v1, rfl⟩ := list_of2 hl
  obtain ⟨y0, h0⟩ := fld hlen hg 0 _ rfl 3 0 1 rfl rfl ocells3
  obtain ⟨y1, h1⟩ := fld hlen hg 1 _ rfl 22 1 1 rfl rfl ocells22
  obtain ⟨a_0, e0⟩ := trod3 h0
  obtain ⟨a_1A, a_1c, a_1l, e1, f1_0, f1_1⟩ := trod22 h1
  simp only [List.drop_zero, List.take_succ_cons, List.take_zero, List.drop_succ_cons, List.cons.injEq, and_true] at e0 e1
  subst e0 e1
  exact ⟨a_0, a_1A, a_1c, a_1l, rfl, f1_0, f1_1⟩

theorem trod23 {n : Nat} {cs : List Value} {x : DataW X × List MemPlace} (h : DataW.trod enc Try.prog w base spare held n 23 cs = some x) : ∃ (aA : Option Addr) (ac : Nat) (al : List S49), cs = [.slice aA al.length ac] ∧ al.length ≤ ac ∧ Kd.C k49 w aA al.length al := by
  rcases open_slice Try.underlying23 h with ⟨rfl, _⟩ | ⟨a, len, cap, m, k, D, Pl, rfl, hb, hl, hm, hmm, hx, hi⟩
  · exact ⟨none, 0, [], rfl, Nat.le_refl _, rfl, by simp, fun h => absurd h (by simp)⟩
  · have hlm : len ≤ m := by rw [hmm]; split <;> omega
    have H : ∀ i, i < len → ∃ p : S49 × List Value, w.cells? base (a.add (i * 2)) 2 = some p.2 ∧ Kd.K k49 w p.1 p.2 := by
      intro i hil
      obtain ⟨cs', hc, ht⟩ := hi i (by omega)
      obtain ⟨a_0, a_1A, a_1c, a_1l, rfl, q0, q1⟩ := trod49 ht
      rw [ocells49] at hc
      exact ⟨((⟨a_0, a_1l⟩ : S49), _), hc, k49_mk w _ q0 q1⟩
    obtain ⟨F, hF⟩ : ∃ F : Nat → S49 × List Value, ∀ i, i < len → w.cells? base (a.add (i * 2)) 2 = some (F i).2 ∧ Kd.K k49 w (F i).1 (F i).2 := by
      refine ⟨fun i => if h : i < len then (H i h).choose else (P.z49, []), fun i h => ?_⟩
      simp only [dif_pos h]
      exact (H i h).choose_spec
    refine ⟨some a, cap, (List.range len).map (fun i => (F i).1), by simp, by simpa using hl, ?_, ?_, ?_⟩
    · rfl
    · simp only [List.length_map, List.length_range]
      unfold maxLen at hm
      omega
    · intro _
      refine ⟨a, rfl, fun j p hj => ?_⟩
      have hjl : j < len := by
        have := (List.getElem?_eq_some_iff.1 hj).1
        simpa using this
      have hp : p = (F j).1 := by
        rw [List.getElem?_map, List.getElem?_range hjl] at hj
        simpa using hj.symm
      subst hp
      refine ⟨(F j).2, Kd.K_len _ (hF j hjl).2, (hF j hjl).2, ?_⟩
      intro i u hu
      obtain ⟨_, hcl, hat⟩ := World.cells?_some (hF j hjl).1
      have hil : i < 2 := by
        have h1 := (List.getElem?_eq_some_iff.1 hu).1
        have h2 : (F j).2.length = 2 := Kd.K_len _ (hF j hjl).2
        omega
      have := hat i hil
      rw [Go.Deep.add_add] at this
      rw [show j * (Kd.sz k49) + i = j * 2 + i from rfl, this, hu]

theorem ocells24 : Try.prog.cellsOf 24 = 1 := by kernel_rfl

theorem ocells45 : Try.prog.cellsOf 45 = 8 := by kernel_rfl

theorem list_of8 {cs : List Value} (h : cs.length = 8) : ∃ v0 v1 v2 v3 v4 v5 v6 v7, cs = [v0, v1, v2, v3, v4, v5, v6, v7] := by
  match cs, h with
  | [v0, v1, v2, v3, v4, v5, v6, v7], _ => exact ⟨v0, v1, v2, v3, v4, v5, v6, v7, rfl⟩

theorem trod45 {n : Nat} {cs : List Value} {x : DataW X × List MemPlace} (h : DataW.trod enc Try.prog w base spare held n 45 cs = some x) : ∃ (a_0 : Int) (a_1 : Int) (a_2 : Int) (a_3 : Int) (a_4 : Int) (a_5 : Int) (a_6 : Int) (a_7 : Int), cs = [.int .i64 a_0, .int .i64 a_1, .int .i64 a_2, .int .i64 a_3, .int .i64 a_4, .int .i64 a_5, .int .i64 a_6, .int .i64 a_7] := by
  obtain ⟨xs, m, _, hx, hl, hlen, hg⟩ := DataW.trod_struct Try.underlying45 h
  rw [ocells45] at hl
  obtain ⟨v0, v1, v2, v3, v4, v5, v6, v7, rfl⟩ := list_of8 hl
  obtain ⟨y0, h0⟩ := fld hlen hg 0 _ rfl 3 0 1 rfl rfl ocells3
  obtain ⟨y1, h1⟩ := fld hlen hg 1 _ rfl 3 1 1 rfl rfl ocells3
  obtain ⟨y2, h2⟩ := fld hlen hg 2 _ rfl 3 2 1 rfl rfl ocells3
  obtain ⟨y3, h3⟩ := fld hlen hg 3 _ rfl 3 3 1 rfl rfl ocells3
  obtain ⟨y4, h4⟩ := fld hlen hg 4 _ rfl 3 4 1 rfl rfl ocells3
  obtain ⟨y5, h5⟩ := fld hlen hg 5 _ rfl 3 5 1 rfl rfl ocells3
  obtain ⟨y6, h6⟩ := fld hlen hg 6 _ rfl 3 6 1 rfl rfl ocells3
  obtain ⟨y7, h7⟩ := fld hlen hg 7 _ rfl 3 7 1 rfl rfl ocells3
  obtain ⟨a_0, e0⟩ := trod3 h0
  obtain ⟨a_1, e1⟩ := trod3 h1
  obtain ⟨a_2, e2⟩ := trod3 h2
  obtain ⟨a_3, e3⟩ := trod3 h3
  obtain ⟨a_4, e4⟩ := trod3 h4
  obtain ⟨a_5, e5⟩ := trod3 h5
  obtain ⟨a_6, e6⟩ := trod3 h6
  obtain ⟨a_7, e7⟩ := trod3 h7
  simp only [List.drop_zero, List.take_succ_cons, List.take_zero, List.drop_succ_cons, List.cons.injEq, and_true] at e0 e1 e2 e3 e4 e5 e6 e7
  subst e0 e1 e2 e3 e4 e5 e6 e7
  exact ⟨a_0, a_1, a_2, a_3, a_4, a_5, a_6, a_7, rfl⟩

theorem trod24 {n : Nat} {cs : List Value} {x : DataW X × List MemPlace} (h : DataW.trod enc Try.prog w base spare held n 24 cs = some x) : ∃ (aA : Option Addr) (ac : Nat) (al : List S45), cs = [.slice aA al.length ac] ∧ al.length ≤ ac ∧ Kd.C k45 w aA al.length al := by
  rcases open_slice Try.underlying24 h with ⟨rfl, _⟩ | ⟨a, len, cap, m, k, D, Pl, rfl, hb, hl, hm, hmm, hx, hi⟩
  · exact ⟨none, 0, [], rfl, Nat.le_refl _, rfl, by simp, fun h => absurd h (by simp)⟩
  · have hlm : len ≤ m := by rw [hmm]; split <;> omega
    have H : ∀ i, i < len → ∃ s : S45, w.cells? base (a.add (i * 8)) 8 = some [.int .i64 s.f0, .int .i64 s.f1, .int .i64 s.f2, .int .i64 s.f3, .int .i64 s.f4, .int .i64 s.f5, .int .i64 s.f6, .int .i64 s.f7] := by
      intro i hil
      obtain ⟨cs', hc, ht⟩ := hi i (by omega)
      obtain ⟨a_0, a_1, a_2, a_3, a_4, a_5, a_6, a_7, rfl⟩ := trod45 ht
      rw [ocells45] at hc
      exact ⟨⟨a_0, a_1, a_2, a_3, a_4, a_5, a_6, a_7⟩, hc⟩
    obtain ⟨F, hF⟩ : ∃ F : Nat → S45, ∀ i, i < len → w.cells? base (a.add (i * 8)) 8 = some [.int .i64 (F i).f0, .int .i64 (F i).f1, .int .i64 (F i).f2, .int .i64 (F i).f3, .int .i64 (F i).f4, .int .i64 (F i).f5, .int .i64 (F i).f6, .int .i64 (F i).f7] := by
      refine ⟨fun i => if h : i < len then (H i h).choose else P.z45, fun i h => ?_⟩
      simp only [dif_pos h]
      exact (H i h).choose_spec
    refine ⟨some a, cap, (List.range len).map F, by simp, by simpa using hl, ?_, ?_, ?_⟩
    · rfl
    · simp only [List.length_map, List.length_range]
      unfold maxLen at hm
      omega
    · intro _
      refine ⟨a, rfl, fun j p hj => ?_⟩
      have hjl : j < len := by
        have := (List.getElem?_eq_some_iff.1 hj).1
        simpa using this
      have hp : p = F j := by
        rw [List.getElem?_map, List.getElem?_range hjl] at hj
        simpa using hj.symm
      subst hp
      refine ⟨[.int .i64 (F j).f0, .int .i64 (F j).f1, .int .i64 (F j).f2, .int .i64 (F j).f3, .int .i64 (F j).f4, .int .i64 (F j).f5, .int .i64 (F j).f6, .int .i64 (F j).f7], rfl, k45_mk w (F j), ?_⟩
      intro i u hu
      obtain ⟨_, hcl, hat⟩ := World.cells?_some (hF j hjl)
      have hil : i < 8 := (List.getElem?_eq_some_iff.1 hu).1
      have := hat i hil
      rw [Go.Deep.add_add] at this
      rw [show j * (k45).sz + i = j * 8 + i from rfl, this, hu]

theorem list_of5 {cs : List Value} (h : cs.length = 5) : ∃ v0 v1 v2 v3 v4, cs = [v0, v1, v2, v3, v4] := by
  match cs, h with
  | [v0, v1, v2, v3, v4], _ => exact ⟨v0, v1, v2, v3, v4, rfl⟩

theorem trod26 {n : Nat} {cs : List Value} {x : DataW X × List MemPlace} (h : DataW.trod enc Try.prog w base spare held n 26 cs = some x) : ∃ (a_0 : Int) (a_1A : Option Addr) (a_1c : Nat) (a_1l : List Int) (a_2 : Int) (a_3A : Option Addr) (a_3c : Nat) (a_3l : List S49) (a_4A : Option Addr) (a_4c : Nat) (a_4l : List S45), cs = [.int .i64 a_0, .slice a_1A a_1l.length a_1c, .int .i64 a_2, .slice a_3A a_3l.length a_3c, .slice a_4A a_4l.length a_4c] ∧ a_1l.length ≤ a_1c ∧ Kd.C (Kd.int .i64) w a_1A a_1l.length a_1l ∧ a_3l.length ≤ a_3c ∧ Kd.C k49 w a_3A a_3l.length a_3l ∧ a_4l.length ≤ a_4c ∧ Kd.C k45 w a_4A a_4l.length a_4l := by
  obtain ⟨xs, m, _, hx, hl, hlen, hg⟩ := DataW.trod_struct Try.underlying26 h
  rw [ocells26] at hl
  obtain ⟨v0, v1, v2, v3, v4, rfl⟩ := list_of5 hl
  obtain ⟨y0, h0⟩ := fld hlen hg 0 _ rfl 3 0 1 rfl rfl ocells3
  obtain ⟨y1, h1⟩ := fld hlen hg 1 _ rfl 22 1 1 rfl rfl ocells22
  obtain ⟨y2, h2⟩ := fld hlen hg 2 _ rfl 3 2 1 rfl rfl ocells3
  obtain ⟨y3, h3⟩ := fld hlen hg 3 _ rfl 23 3 1 rfl rfl ocells23
  obtain ⟨y4, h4⟩ := fld hlen hg 4 _ rfl 24 4 1 rfl rfl ocells24
  obtain ⟨a_0, e0⟩ := trod3 h0
  obtain ⟨a_1A, a_1c, a_1l, e1, f1_0, f1_1⟩ := trod22 h1
  obtain ⟨a_2, e2⟩ := trod3 h2
  obtain ⟨a_3A, a_3c, a_3l, e3, f3_0, f3_1⟩ := trod23 h3
  obtain ⟨a_4A, a_4c, a_4l, e4, f4_0, f4_1⟩ := trod24 h4
  simp only [List.drop_zero, List.take_succ_cons, List.take_zero, List.drop_succ_cons, List.cons.injEq, and_true] at e0 e1 e2 e3 e4
  subst e0 e1 e2 e3 e4
  exact ⟨a_0, a_1A, a_1c, a_1l, a_2, a_3A, a_3c, a_3l, a_4A, a_4c, a_4l, rfl, f1_0, f1_1, f3_0, f3_1, f4_0, f4_1⟩

set_option maxRecDepth 100000 in
theorem week_open {r : Reach} {b0 : Nat} {v : Value} {d : DataW X} {p : List MemPlace} (hval : Value.okWide Try.prog w r b0 26 v) (h : DataW.Trod enc Try.prog w base spare held 26 v d p) : ∃ (a_0 : Int) (a_1A : Option Addr) (a_1c : Nat) (a_1l : List Int) (a_2 : Int) (a_3A : Option Addr) (a_3c : Nat) (a_3l : List S49) (a_4A : Option Addr) (a_4c : Nat) (a_4l : List S45), v = .agg #[.int .i64 a_0, .slice a_1A a_1l.length a_1c, .int .i64 a_2, .slice a_3A a_3l.length a_3c, .slice a_4A a_4l.length a_4c] ∧ a_1l.length ≤ a_1c ∧ Kd.C (Kd.int .i64) w a_1A a_1l.length a_1l ∧ a_3l.length ≤ a_3c ∧ Kd.C k49 w a_3A a_3l.length a_3l ∧ a_4l.length ≤ a_4c ∧ Kd.C k45 w a_4A a_4l.length a_4l := by
  obtain ⟨cs, rfl, hsz⟩ := okWide_struct Try.underlying26 hval
  obtain ⟨n, hn⟩ := h
  obtain ⟨a_0, a_1A, a_1c, a_1l, a_2, a_3A, a_3c, a_3l, a_4A, a_4c, a_4l, hH, f0, f1, f2, f3, f4, f5⟩ := trod26 hn
  obtain ⟨l⟩ := cs
  obtain rfl : l = _ := hH
  exact ⟨a_0, a_1A, a_1c, a_1l, a_2, a_3A, a_3c, a_3l, a_4A, a_4c, a_4l, rfl, f0, f1, f2, f3, f4, f5⟩

end

end Go.Proofs.Ytdiambcjghlffaa.T
namespace Go.Proofs.Ytdiambcjghlffaa.T
open Go.RowKit Go.Proofs.YtdiambcjghlffaaW.PrintWords Go.Proofs.YtdiambcjghlffaaW.PrintMore
open Go.Proofs.Ytdiambcjghlffaa.P
set_option linter.unusedVariables false
set_option linter.unusedSimpArgs false

end Go.Proofs.Ytdiambcjghlffaa.T
namespace Go.Proofs.Ytdiambcjghlffaa.T
open Go.RowKit Go.Proofs.YtdiambcjghlffaaW.PrintWords Go.Proofs.YtdiambcjghlffaaW.PrintMore
open Go.Proofs.Ytdiambcjghlffaa.P
set_option linter.unusedVariables false
set_option linter.unusedSimpArgs false

set_option maxRecDepth 100000 in
set_option maxHeartbeats 8000000 in

theorem isProgram_any (V : Wk) (m : Wa) (p : List Int) (A : Option Addr) (c : Nat) (w : World) (hV : WM w V m) (hs : Sz V) (hp : Kd.C kI w A p.length p) (hpn : p.length ≤ 9223372036854775807) (ok : Shp V) (r : Bool) (hb : r = true ↔ IsP V p) :
    Calls Try.prog 24 #[wv V m, .slice A p.length c] w fun e w' => e = .returned (.bool r) ∧ Below w.heap.size w w' := by
  have hsf := hs.f
  have hsn := slots_nat ok
  have hu3 := Try.underlying3
  have hu22 := Try.underlying22
  have hu23 := Try.underlying23
  have hu26 := Try.underlying26
  obtain ⟨z3, o3⟩ := info_some info3s (by decide)
  obtain ⟨z22, o22⟩ := info_some info22s (by decide)
  obtain ⟨z23, o23⟩ := info_some info23s (by decide)
  refine E.enter (N := 27) Try.func24 rfl Try.ntmps24 (args := [wv V m, .slice A p.length c]) (by simp) ?_
  have L := Below.refl w.heap.size w
  refine E.CG.seq ?_
  refine E.CG.list ?_
  refine E.GL.st rfl rfl rfl (E.ST.box rfl rfl fun g2 w2 e2 b2 l2 => ?_)
  have h2_L : w.heap.size ≤ g2 := by rw [e2]; exact L.size
  replace L := below_step L l2
  refine E.GL.run rfl rfl rfl (E.Runs.assign rfl rfl) ?_
  refine E.GL.done ?_
  refine E.QG.code ?_
  refine E.CG.seq ?_
  refine E.CG.seq ?_
  refine E.CG.list ?_
  refine E.GL.run rfl rfl rfl (E.Runs.assign rfl rfl) ?_
  refine E.GL.done ?_
  refine E.QG.code ?_
  refine E.CG.block ?_
  have s2_b2 := b2
  have s2_L := L
  refine E.CG.loop (fun (i : Nat) => [(1, .slice A p.length c), (2, .pointer (some ⟨g2, 0, none⟩)), (5, .int .i64 i)]) (fun i w' => i ≤ p.length ∧ (∀ k, k < i → ∀ y, p[k]? = some y → -1 ≤ y ∧ y ≤ (V.fs.length : Int) - 1) ∧ w'.heap[g2]? = some (.cells #[.int .i64 V.d, .slice m.A V.rs.length m.a, .int .i64 V.h, .slice m.B V.fs.length m.b, .slice m.C V.ds.length m.c] 26 (0, 0)) ∧ Below w.heap.size w w') (fun i => p.length - i) 0 (E.subc rfl (E.subc rfl (E.subc rfl E.subn))) ⟨Nat.zero_le _, fun k hk => by omega, b2, L⟩ ?_
  rintro i w2 ⟨hi, hok, b2, L⟩
  refine E.CG.seq ?_
  refine E.CG.seq ?_
  refine E.CG.list ?_
  refine E.GL.run rfl rfl rfl (E.Runs.move rfl rfl) ?_
  refine E.GL.run rfl rfl rfl (E.Runs.move rfl rfl) ?_
  refine E.GL.run rfl rfl rfl (E.Runs.len rfl rfl hu22) ?_
  refine E.GL.cmp rfl rfl rfl (fun _ h => (E.Runs.lss rfl rfl rfl h)) (fun h9 => ?_) (fun h9 => ?_)
  · obtain ⟨y, hy⟩ := get_ex (show i < p.length by omega)
    obtain ⟨ad, eA, X⟩ := int_at hp hy
    refine E.GL.done ?_
    refine E.QG.code ?_
    refine E.CG.cond_t rfl ?_
    refine E.CG.skip ?_
    refine E.QG.code ?_
    refine E.CG.seq ?_
    refine E.CG.block ?_
    refine E.CG.seq ?_
    refine E.CG.heldH (none) (by kernel_rfl) fun v4 lD hh => ?_
    replace b2 := blk_below b2 lD
    replace L := below_step L lD
    clear lD
    have s_b2 := b2
    have s_L := L
    refine E.GH.take (i := 0) rfl (by kernel_rfl) (by kernel_rfl) (by kernel_rfl) (by intro c a d v w h; first | (cases d <;> exact h) | exact nomatch (show _ ∧ _ from h).1) rfl rfl rfl (fun w' hS => (E.Runs.move rfl rfl)) ?_
    refine E.GH.take (i := 1) rfl (by kernel_rfl) (by kernel_rfl) (by kernel_rfl) (by intro c a d v w h; first | (cases d <;> exact h) | exact nomatch (show _ ∧ _ from h).1) rfl rfl rfl (fun w' hS => (E.Runs.move rfl rfl)) ?_
    refine E.GH.take (i := 2) rfl (by kernel_rfl) (by kernel_rfl) (by kernel_rfl) (by intro c a d v w h; first | (cases d <;> exact h) | exact nomatch (show _ ∧ _ from h).1) rfl rfl rfl (fun w' hS => (E.Runs.indexAddrA (i := i) rfl rfl rfl hu22 z3 o3 (by omega) eA rfl)) ?_
    refine E.GH.take (i := 3) rfl (by kernel_rfl) (by kernel_rfl) (by kernel_rfl) (by intro c a d v w h; first | (cases d <;> exact h) | exact nomatch (show _ ∧ _ from h).1) rfl rfl rfl (fun w' hS => (E.Runs.load rfl rfl hu3 (pw_cell_below (below_step s_L (E.belowG hS)) X))) ?_
    refine E.GH.take (i := 4) rfl (by kernel_rfl) (by kernel_rfl) (by kernel_rfl) (by intro c a d v w h; first | (cases d <;> exact h) | exact nomatch (show _ ∧ _ from h).1) rfl rfl rfl (fun w' hS => (E.Runs.fieldAddr rfl rfl hu26 rfl (by assumption) rfl)) ?_
    refine E.GH.take (i := 5) rfl (by kernel_rfl) (by kernel_rfl) (by kernel_rfl) (by intro c a d v w h; first | (cases d <;> exact h) | exact nomatch (show _ ∧ _ from h).1) rfl rfl rfl (fun w' hS => (E.Runs.load1 rfl rfl hu23 rfl (by first | exact E.keeps hS (E.blkc (by assumption) rfl) (by first | exact E.nen | exact E.nes (by assumption) | exact E.nes (Ne.symm (by assumption))) | exact pw_cell_below (below_step s_L (E.belowG hS)) (by assumption)))) ?_
    refine E.GH.take (i := 6) rfl (by kernel_rfl) (by kernel_rfl) (by kernel_rfl) (by intro c a d v w h; first | (cases d <;> exact h) | exact nomatch (show _ ∧ _ from h).1) rfl rfl rfl (fun w' hS => (E.Runs.len rfl rfl hu23)) ?_
    refine E.GH.take (i := 7) rfl (by kernel_rfl) (by kernel_rfl) (by kernel_rfl) (by intro c a d v w h; first | (cases d <;> exact h) | exact nomatch (show _ ∧ _ from h).1) rfl rfl rfl (fun w' hS => (E.Runs.sub rfl rfl rfl (IntWalk.i64_in _ (by omega)))) ?_
    by_cases h20 : inR y (-1) (V.fs.length - 1)
    · refine E.GH.one (i := 8) (by kernel_rfl) rfl ?_
      refine E.GO.st rfl rfl rfl (E.ST.call rfl ent47 (E.evc rfl (E.evc rfl (E.evc rfl E.evn))) ((within_r y (-1) (V.fs.length - 1) true (iff_of_true rfl h20) _).mono ?_))
      rintro e w20 ⟨rfl, l20⟩
      refine ⟨_, rfl, hh.trans (E.gbB l20), ?_⟩
      replace hh := hh.trans (E.gbB l20)
      replace b2 := blk_below b2 l20
      replace L := below_step L l20
      refine E.GH.take (i := 9) rfl (by kernel_rfl) (by kernel_rfl) (by kernel_rfl) (by intro c a d v w h; first | (cases d <;> exact h) | exact nomatch (show _ ∧ _ from h).1) rfl rfl rfl (fun w' hS => (E.Runs.not rfl rfl)) ?_
      refine E.GH.done (by kernel_rfl) ?_
      refine E.QG.code ?_
      refine E.CG.cond_f rfl ?_
      refine E.CG.skip ?_
      refine E.QG.block_normal ?_
      refine E.QG.code ?_
      refine E.CG.list ?_
      refine E.GL.run rfl rfl rfl (E.Runs.move rfl rfl) ?_
      refine E.GL.run rfl rfl rfl (E.Runs.add rfl rfl rfl (IntWalk.i64_in _ (by omega))) ?_
      refine E.GL.run rfl rfl rfl (E.Runs.assign rfl rfl) ?_
      refine E.GL.done ?_
      exact E.QG.round (i + 1) (E.subc rfl (E.subc rfl (E.subc rfl E.subn))) ⟨by omega, all_more hok hy h20, b2, L⟩ (by omega)
    · refine E.GH.one (i := 8) (by kernel_rfl) rfl ?_
      refine E.GO.st rfl rfl rfl (E.ST.call rfl ent47 (E.evc rfl (E.evc rfl (E.evc rfl E.evn))) ((within_r y (-1) (V.fs.length - 1) false (iff_of_false Bool.false_ne_true h20) _).mono ?_))
      rintro e w20 ⟨rfl, l20⟩
      refine ⟨_, rfl, hh.trans (E.gbB l20), ?_⟩
      replace hh := hh.trans (E.gbB l20)
      replace b2 := blk_below b2 l20
      replace L := below_step L l20
      refine E.GH.take (i := 9) rfl (by kernel_rfl) (by kernel_rfl) (by kernel_rfl) (by intro c a d v w h; first | (cases d <;> exact h) | exact nomatch (show _ ∧ _ from h).1) rfl rfl rfl (fun w' hS => (E.Runs.not rfl rfl)) ?_
      refine E.GH.done (by kernel_rfl) ?_
      refine E.QG.code ?_
      refine E.CG.cond_t rfl ?_
      refine E.CG.seq ?_
      refine E.CG.list ?_
      refine E.GL.run rfl rfl rfl (E.Runs.assign rfl rfl) ?_
      refine E.GL.done ?_
      refine E.QG.code ?_
      refine E.CG.ret ?_
      refine E.QG.block_ret ?_
      refine E.QG.pass_ret ?_
      refine E.QG.pass_ret ?_
      refine E.QG.block_ret ?_
      refine E.QG.pass_ret ?_
      exact E.QG.result rfl rfl ⟨by rw [bool_no hb (fun k => h20 (k.2 y (mem_of hy)))], L⟩
  · refine E.GL.done ?_
    refine E.QG.code ?_
    refine E.CG.cond_f rfl ?_
    refine E.CG.exit ?_
    refine E.QG.pass_exit ?_
    refine E.QG.pass_exit ?_
    refine E.QG.block_here ?_
    refine E.QG.code ?_
    refine E.CG.seq ?_
    refine E.CG.list ?_
    refine E.GL.run rfl rfl rfl (E.Runs.move rfl rfl) ?_
    refine E.GL.run rfl rfl rfl (E.Runs.len rfl rfl hu22) ?_
    refine E.GL.run rfl rfl rfl (E.Runs.loads (cs := [.int .i64 V.d, .slice m.A V.rs.length m.a, .int .i64 V.h, .slice m.B V.fs.length m.b, .slice m.C V.ds.length m.c]) rfl rfl hu26 rfl info26s (blk_cells b2)) ?_
    refine E.GL.st rfl rfl rfl (E.ST.call rfl ent35 (E.evc rfl E.evn) ((slots_r V m _ ok.d ok.r ok.h).mono ?_))
    rintro e w25 ⟨rfl, l25⟩
    refine ⟨_, rfl, ?_⟩
    replace b2 := blk_below b2 l25
    replace L := below_step L l25
    refine E.GL.cmp rfl rfl rfl (fun _ h => (E.Runs.eql rfl rfl rfl h)) (fun h26 => ?_) (fun h26 => ?_)
    · refine E.GL.run rfl rfl rfl (E.Runs.assign rfl rfl) ?_
      refine E.GL.done ?_
      refine E.QG.code ?_
      refine E.CG.ret ?_
      exact E.QG.result rfl rfl ⟨by rw [hb.mpr ⟨by omega, all_done hok (by omega)⟩], L⟩
    · refine E.GL.run rfl rfl rfl (E.Runs.assign rfl rfl) ?_
      refine E.GL.done ?_
      refine E.QG.code ?_
      refine E.CG.ret ?_
      exact E.QG.result rfl rfl ⟨by rw [bool_no hb (fun k => by have := k.1; omega)], L⟩

theorem brA_yes {V : Wk} {p : List Int} (ok : WOk V) (hP : IsP V p) : brA V p = brk V p V.ds.length := by unfold brA; rw [if_pos (chkP_yes ok hP)]
theorem tkA_yes {V : Wk} {p : List Int} (ok : WOk V) (hP : IsP V p) : tkA V p = takes V p := by unfold tkA; rw [if_pos (chkP_yes ok hP)]
theorem brA_keeps {V : Wk} {p : List Int} (ok : WOk V) (hP : IsP V p) (hK : Kp V (allS V) p) : brA V p = [] := by rw [brA_yes ok hP]; exact brk_nil.mpr hK
theorem brA_nil {V : Wk} {p : List Int} (ok : WOk V) (hP : IsP V p) (h : (brA V p).length = 0) : Kp V (allS V) p := brk_nil.mp (by rw [← brA_yes ok hP]; exact List.eq_nil_of_length_eq_zero h)
theorem most_err {V : Wk} {n e : Int} (ok : WOk V) (h : MostOk V n e) (he : e ≠ 0) : n = 0 ∧ e = 3 ∧ IsMx V (allS V) none := by
  rcases h with ⟨h1, _⟩ | ⟨_, r, h2, h3, h4⟩
  · exact absurd ok h1
  · cases r with
    | none => exact ⟨h3, h4, h2⟩
    | some a => exact absurd h4 he
theorem most_of {V : Wk} {q : List Int} (ok : WOk V) (h : IsMx V (allS V) (some (takes V q))) : MostOk V (takes V q) 0 := .inr ⟨ok, _, h, rfl, rfl⟩
set_option maxRecDepth 100000 in
set_option maxHeartbeats 8000000 in

theorem proof_law (V : Wk) (m : Wa) (p : List Int) (A : Option Addr) (c : Nat) (w : World) (hV : WM w V m) (hp : Kd.C kI w A p.length p) :
    Calls Try.prog 10 #[wv V m, .slice A p.length c] w fun e w' => e = .returned (.bool true) ∧ Below w.heap.size w w' := by
  have hpm := Kd.C_max hp
  have hu3 := Try.underlying3
  have hu22 := Try.underlying22
  have hu26 := Try.underlying26
  have hu30 := Try.underlying30
  have hu31 := Try.underlying31
  have hu33 := Try.underlying33
  obtain ⟨z3, o3⟩ := info_some info3s (by decide)
  obtain ⟨z22, o22⟩ := info_some info22s (by decide)
  obtain ⟨z26, o26⟩ := info_some info26s (by decide)
  refine E.enter (N := 121) Try.func10 rfl Try.ntmps10 (args := [wv V m, .slice A p.length c]) (by simp) ?_
  have L := Below.refl w.heap.size w
  refine E.CG.seq ?_
  refine E.CG.list ?_
  refine E.GL.st rfl rfl rfl (E.ST.box rfl rfl fun g2 w2 e2 b2 l2 => ?_)
  have h2_L : w.heap.size ≤ g2 := by rw [e2]; exact L.size
  replace L := below_step L l2
  refine E.GL.run rfl rfl rfl (E.Runs.assign rfl rfl) ?_
  refine E.GL.done ?_
  refine E.QG.code ?_
  refine E.CG.seq ?_
  refine E.CG.seq ?_
  refine E.CG.list ?_
  refine E.GL.run rfl rfl rfl (E.Runs.loads (cs := [.int .i64 V.d, .slice m.A V.rs.length m.a, .int .i64 V.h, .slice m.B V.fs.length m.b, .slice m.C V.ds.length m.c]) rfl rfl hu26 rfl info26s (blk_cells b2)) ?_
  by_cases h18 : Rdy V
  · have hs : Sz V := hg_no h18.1
    have ok := h18.2.2
    refine E.GL.st rfl rfl rfl (E.ST.call rfl ent22 (E.evc rfl E.evn) ((ready_calls V m _ (hV.below L) true (iff_of_true rfl h18)).mono ?_))
    rintro e w18 ⟨rfl, l18⟩
    refine ⟨_, rfl, ?_⟩
    replace b2 := blk_below b2 l18
    replace L := below_step L l18
    refine E.GL.run rfl rfl rfl (E.Runs.not rfl rfl) ?_
    refine E.GL.run rfl rfl rfl (E.Runs.move rfl rfl) ?_
    refine E.GL.run rfl rfl rfl (E.Runs.loads (cs := [.int .i64 V.d, .slice m.A V.rs.length m.a, .int .i64 V.h, .slice m.B V.fs.length m.b, .slice m.C V.ds.length m.c]) rfl rfl hu26 rfl info26s (blk_cells b2)) ?_
    refine E.GL.run rfl rfl rfl (E.Runs.move rfl rfl) ?_
    by_cases h23 : IsP V p
    · have htk := takes_small ok.s h23
      have hpl := h23.1
      have hsl := (slots_nat ok.s).2.1
      have hpn : p.length ≤ 1000000 := by omega
      refine E.GL.st rfl rfl rfl (E.ST.call rfl ent24 (E.evc rfl (E.evc rfl E.evn)) ((isProgram_any V m p A c _ (hV.below L) hs (Kd.C_below hp L) hpm ok.s true (iff_of_true rfl h23)).mono ?_))
      rintro e w23 ⟨rfl, l23⟩
      refine ⟨_, rfl, ?_⟩
      replace b2 := blk_below b2 l23
      replace L := below_step L l23
      refine E.GL.run rfl rfl rfl (E.Runs.not rfl rfl) ?_
      refine E.GL.run rfl rfl rfl (E.Runs.pick_f rfl rfl rfl) ?_
      refine E.GL.done ?_
      refine E.QG.code ?_
      refine E.CG.cond_f rfl ?_
      refine E.CG.skip ?_
      refine E.QG.code ?_
      refine E.CG.seq ?_
      refine E.CG.list ?_
      refine E.GL.run rfl rfl rfl (E.Runs.loads (cs := [.int .i64 V.d, .slice m.A V.rs.length m.a, .int .i64 V.h, .slice m.B V.fs.length m.b, .slice m.C V.ds.length m.c]) rfl rfl hu26 rfl info26s (blk_cells b2)) ?_
      refine E.GL.st rfl rfl rfl (E.ST.call rfl ent15 (E.evc rfl E.evn) ((most_calls V m _ (hV.below L) hs).mono ?_))
      rintro e w29 ⟨n29, e29, rfl, hm29, l29⟩
      refine ⟨_, rfl, ?_⟩
      replace b2 := blk_below b2 l29
      replace L := below_step L l29
      refine E.GL.run rfl rfl rfl (E.Runs.move rfl rfl) ?_
      refine E.GL.run rfl rfl rfl (E.Runs.extract rfl rfl rfl) ?_
      refine E.GL.run rfl rfl rfl (E.Runs.extract rfl rfl rfl) ?_
      refine E.GL.run rfl rfl rfl (E.Runs.assign rfl rfl) ?_
      refine E.GL.run rfl rfl rfl (E.Runs.assign rfl rfl) ?_
      refine E.GL.done ?_
      refine E.QG.code ?_
      refine E.CG.seq ?_
      refine E.CG.list ?_
      refine E.GL.run rfl rfl rfl (E.Runs.loads (cs := [.int .i64 V.d, .slice m.A V.rs.length m.a, .int .i64 V.h, .slice m.B V.fs.length m.b, .slice m.C V.ds.length m.c]) rfl rfl hu26 rfl info26s (blk_cells b2)) ?_
      refine E.GL.st rfl rfl rfl (E.ST.call rfl ent28 (E.evc rfl E.evn) ((best_calls V m _ (hV.below L) hs).mono ?_))
      rintro e w34 ⟨A34, n34, k34, e34, rfl, hB, l34⟩
      refine ⟨_, rfl, ?_⟩
      replace b2 := blk_below b2 l34
      replace L := below_step L l34
      have lz := Below.refl w34.heap.size w34
      refine E.GL.run rfl rfl rfl (E.Runs.move rfl rfl) ?_
      rcases hB with ⟨he0, rfl, rfl, rfl, hmo⟩ | ⟨rfl, ok2, q, hqC, rfl, hqk, hQ, hK, hmx⟩
      · obtain ⟨_, rfl, hno⟩ := most_err ok hmo he0
        obtain ⟨rfl, rfl⟩ := hmo.one hm29
        refine E.GL.run rfl rfl rfl (E.Runs.extract rfl rfl rfl) ?_
        refine E.GL.run rfl rfl rfl (E.Runs.extract rfl rfl rfl) ?_
        refine E.GL.run rfl rfl rfl (E.Runs.assign rfl rfl) ?_
        refine E.GL.run rfl rfl rfl (E.Runs.assign rfl rfl) ?_
        refine E.GL.done ?_
        refine E.QG.code ?_
        refine E.CG.seq ?_
        refine E.CG.list ?_
        refine E.GL.run rfl rfl rfl (E.Runs.loads (cs := [.int .i64 V.d, .slice m.A V.rs.length m.a, .int .i64 V.h, .slice m.B V.fs.length m.b, .slice m.C V.ds.length m.c]) rfl rfl hu26 rfl info26s (blk_cells b2)) ?_
        refine E.GL.run rfl rfl rfl (E.Runs.move rfl rfl) ?_
        refine E.GL.st rfl rfl rfl (E.ST.call rfl ent25 (E.evc rfl (E.evc rfl E.evn)) ((broken_o V m p A c _ (hV.below L) hs (Kd.C_below hp L) hpn).mono ?_))
        rintro e w40 ⟨v40, rfl, R40, l40⟩
        refine ⟨_, rfl, ?_⟩
        replace b2 := blk_below b2 l40
        replace L := below_step L l40
        replace lz := below_step lz l40
        obtain ⟨A40, c40, hv40⟩ := Kd.R_slice R40
        subst hv40
        refine E.GL.run rfl rfl rfl (E.Runs.move rfl rfl) ?_
        refine E.GL.run rfl rfl rfl (E.Runs.extract rfl rfl rfl) ?_
        refine E.GL.run rfl rfl rfl (E.Runs.extract rfl rfl rfl) ?_
        refine E.GL.run rfl rfl rfl (E.Runs.assign rfl rfl) ?_
        refine E.GL.run rfl rfl rfl (E.Runs.assign rfl rfl) ?_
        refine E.GL.done ?_
        refine E.QG.code ?_
        refine E.CG.seq ?_
        refine E.CG.list ?_
        refine E.GL.run rfl rfl rfl (E.Runs.loads (cs := [.int .i64 V.d, .slice m.A V.rs.length m.a, .int .i64 V.h, .slice m.B V.fs.length m.b, .slice m.C V.ds.length m.c]) rfl rfl hu26 rfl info26s (blk_cells b2)) ?_
        refine E.GL.run rfl rfl rfl (E.Runs.move rfl rfl) ?_
        refine E.GL.st rfl rfl rfl (E.ST.call rfl ent32 (E.evc rfl (E.evc rfl E.evn)) ((takingsP_o V m p A c _ (hV.below L) hs (Kd.C_below hp L) hpn).mono ?_))
        rintro e w46 ⟨rfl, l46⟩
        refine ⟨_, rfl, ?_⟩
        replace b2 := blk_below b2 l46
        replace R40 := Kd.R_below R40 l46
        replace L := below_step L l46
        replace lz := below_step lz l46
        refine E.GL.run rfl rfl rfl (E.Runs.move rfl rfl) ?_
        refine E.GL.run rfl rfl rfl (E.Runs.extract rfl rfl rfl) ?_
        refine E.GL.run rfl rfl rfl (E.Runs.extract rfl rfl rfl) ?_
        refine E.GL.run rfl rfl rfl (E.Runs.assign rfl rfl) ?_
        refine E.GL.run rfl rfl rfl (E.Runs.assign rfl rfl) ?_
        refine E.GL.done ?_
        refine E.QG.code ?_
        refine E.CG.seq ?_
        refine E.CG.seq ?_
        refine E.CG.list ?_
        refine E.GL.run rfl rfl rfl (E.Runs.move rfl rfl) ?_
        refine E.GL.run rfl rfl rfl (E.Runs.move rfl rfl) ?_
        refine E.GL.run rfl rfl rfl (E.Runs.neq rfl rfl rfl (E.ne_f rfl)) ?_
        refine E.GL.run rfl rfl rfl (E.Runs.move rfl rfl) ?_
        refine E.GL.run rfl rfl rfl (E.Runs.move rfl rfl) ?_
        refine E.GL.run rfl rfl rfl (E.Runs.neq rfl rfl rfl (E.ne_f (chkP_yes ok h23))) ?_
        refine E.GL.run rfl rfl rfl (E.Runs.pick_f rfl rfl rfl) ?_
        refine E.GL.run rfl rfl rfl (E.Runs.move rfl rfl) ?_
        refine E.GL.run rfl rfl rfl (E.Runs.move rfl rfl) ?_
        refine E.GL.run rfl rfl rfl (E.Runs.neq rfl rfl rfl (E.ne_f (chkP_yes ok h23))) ?_
        refine E.GL.run rfl rfl rfl (E.Runs.pick_f rfl rfl rfl) ?_
        refine E.GL.run rfl rfl rfl (E.Runs.move rfl rfl) ?_
        refine E.GL.run rfl rfl rfl (E.Runs.move rfl rfl) ?_
        refine E.GL.run rfl rfl rfl (E.Runs.lss rfl rfl rfl (decide_eq_false (by rw [tkA_yes ok h23]; omega))) ?_
        refine E.GL.run rfl rfl rfl (E.Runs.pick_f rfl rfl rfl) ?_
        refine E.GL.done ?_
        refine E.QG.code ?_
        refine E.CG.cond_f rfl ?_
        refine E.CG.skip ?_
        refine E.QG.code ?_
        refine E.CG.seq ?_
        refine E.CG.seq ?_
        refine E.CG.list ?_
        refine E.GL.run rfl rfl rfl (E.Runs.move rfl rfl) ?_
        refine E.GL.run rfl rfl rfl (E.Runs.eql rfl rfl rfl (decide_eq_true rfl)) ?_
        refine E.GL.done ?_
        refine E.QG.code ?_
        refine E.CG.cond_t rfl ?_
        refine E.CG.seq ?_
        refine E.CG.list ?_
        refine E.GL.run rfl rfl rfl (E.Runs.move rfl rfl) ?_
        refine E.GL.run rfl rfl rfl (E.Runs.len rfl rfl hu22) ?_
        refine E.GL.run rfl rfl rfl (E.Runs.gtr rfl rfl rfl (decide_eq_true (Int.natCast_pos.mpr (Nat.pos_of_ne_zero fun q => hno p h23 (brA_nil ok h23 q))))) ?_
        refine E.GL.run rfl rfl rfl (E.Runs.move rfl rfl) ?_
        refine E.GL.st rfl rfl rfl (E.ST.call rfl ent13 E.evn ((works_calls _).mono ?_))
        rintro e w70 ⟨rfl, l70⟩
        refine ⟨_, rfl, ?_⟩
        replace b2 := blk_below b2 l70
        replace R40 := Kd.R_below R40 l70
        replace L := below_step L l70
        replace lz := below_step lz l70
        refine E.GL.run rfl rfl rfl (E.Runs.pick_t rfl rfl rfl) ?_
        refine E.GL.run rfl rfl rfl (E.Runs.assign rfl rfl) ?_
        refine E.GL.done ?_
        refine E.QG.code ?_
        refine E.CG.ret ?_
        refine E.QG.pass_ret ?_
        exact E.QG.result rfl rfl ⟨rfl, L⟩
      · obtain ⟨rfl, rfl⟩ := (most_of ok hmx).one hm29
        have hql := hQ.1
        refine E.GL.run rfl rfl rfl (E.Runs.extract rfl rfl rfl) ?_
        refine E.GL.run rfl rfl rfl (E.Runs.extract rfl rfl rfl) ?_
        refine E.GL.run rfl rfl rfl (E.Runs.assign rfl rfl) ?_
        refine E.GL.run rfl rfl rfl (E.Runs.assign rfl rfl) ?_
        refine E.GL.done ?_
        refine E.QG.code ?_
        refine E.CG.seq ?_
        refine E.CG.list ?_
        refine E.GL.run rfl rfl rfl (E.Runs.loads (cs := [.int .i64 V.d, .slice m.A V.rs.length m.a, .int .i64 V.h, .slice m.B V.fs.length m.b, .slice m.C V.ds.length m.c]) rfl rfl hu26 rfl info26s (blk_cells b2)) ?_
        refine E.GL.run rfl rfl rfl (E.Runs.move rfl rfl) ?_
        refine E.GL.st rfl rfl rfl (E.ST.call rfl ent25 (E.evc rfl (E.evc rfl E.evn)) ((broken_o V m p A c _ (hV.below L) hs (Kd.C_below hp L) hpn).mono ?_))
        rintro e w40 ⟨v40, rfl, R40, l40⟩
        refine ⟨_, rfl, ?_⟩
        replace b2 := blk_below b2 l40
        replace L := below_step L l40
        replace lz := below_step lz l40
        obtain ⟨A40, c40, hv40⟩ := Kd.R_slice R40
        subst hv40
        refine E.GL.run rfl rfl rfl (E.Runs.move rfl rfl) ?_
        refine E.GL.run rfl rfl rfl (E.Runs.extract rfl rfl rfl) ?_
        refine E.GL.run rfl rfl rfl (E.Runs.extract rfl rfl rfl) ?_
        refine E.GL.run rfl rfl rfl (E.Runs.assign rfl rfl) ?_
        refine E.GL.run rfl rfl rfl (E.Runs.assign rfl rfl) ?_
        refine E.GL.done ?_
        refine E.QG.code ?_
        refine E.CG.seq ?_
        refine E.CG.list ?_
        refine E.GL.run rfl rfl rfl (E.Runs.loads (cs := [.int .i64 V.d, .slice m.A V.rs.length m.a, .int .i64 V.h, .slice m.B V.fs.length m.b, .slice m.C V.ds.length m.c]) rfl rfl hu26 rfl info26s (blk_cells b2)) ?_
        refine E.GL.run rfl rfl rfl (E.Runs.move rfl rfl) ?_
        refine E.GL.st rfl rfl rfl (E.ST.call rfl ent32 (E.evc rfl (E.evc rfl E.evn)) ((takingsP_o V m p A c _ (hV.below L) hs (Kd.C_below hp L) hpn).mono ?_))
        rintro e w46 ⟨rfl, l46⟩
        refine ⟨_, rfl, ?_⟩
        replace b2 := blk_below b2 l46
        replace R40 := Kd.R_below R40 l46
        replace L := below_step L l46
        replace lz := below_step lz l46
        refine E.GL.run rfl rfl rfl (E.Runs.move rfl rfl) ?_
        refine E.GL.run rfl rfl rfl (E.Runs.extract rfl rfl rfl) ?_
        refine E.GL.run rfl rfl rfl (E.Runs.extract rfl rfl rfl) ?_
        refine E.GL.run rfl rfl rfl (E.Runs.assign rfl rfl) ?_
        refine E.GL.run rfl rfl rfl (E.Runs.assign rfl rfl) ?_
        refine E.GL.done ?_
        refine E.QG.code ?_
        refine E.CG.seq ?_
        refine E.CG.seq ?_
        refine E.CG.list ?_
        refine E.GL.run rfl rfl rfl (E.Runs.move rfl rfl) ?_
        refine E.GL.run rfl rfl rfl (E.Runs.move rfl rfl) ?_
        refine E.GL.run rfl rfl rfl (E.Runs.neq rfl rfl rfl (E.ne_f rfl)) ?_
        refine E.GL.run rfl rfl rfl (E.Runs.move rfl rfl) ?_
        refine E.GL.run rfl rfl rfl (E.Runs.move rfl rfl) ?_
        refine E.GL.run rfl rfl rfl (E.Runs.neq rfl rfl rfl (E.ne_f (chkP_yes ok h23))) ?_
        refine E.GL.run rfl rfl rfl (E.Runs.pick_f rfl rfl rfl) ?_
        refine E.GL.run rfl rfl rfl (E.Runs.move rfl rfl) ?_
        refine E.GL.run rfl rfl rfl (E.Runs.move rfl rfl) ?_
        refine E.GL.run rfl rfl rfl (E.Runs.neq rfl rfl rfl (E.ne_f (chkP_yes ok h23))) ?_
        refine E.GL.run rfl rfl rfl (E.Runs.pick_f rfl rfl rfl) ?_
        refine E.GL.run rfl rfl rfl (E.Runs.move rfl rfl) ?_
        refine E.GL.run rfl rfl rfl (E.Runs.move rfl rfl) ?_
        refine E.GL.run rfl rfl rfl (E.Runs.lss rfl rfl rfl (decide_eq_false (by rw [tkA_yes ok h23]; omega))) ?_
        refine E.GL.run rfl rfl rfl (E.Runs.pick_f rfl rfl rfl) ?_
        refine E.GL.done ?_
        refine E.QG.code ?_
        refine E.CG.cond_f rfl ?_
        refine E.CG.skip ?_
        refine E.QG.code ?_
        refine E.CG.seq ?_
        refine E.CG.seq ?_
        refine E.CG.list ?_
        refine E.GL.run rfl rfl rfl (E.Runs.move rfl rfl) ?_
        refine E.GL.run rfl rfl rfl (E.Runs.eql rfl rfl rfl (decide_eq_false (by decide))) ?_
        refine E.GL.done ?_
        refine E.QG.code ?_
        refine E.CG.cond_f rfl ?_
        refine E.CG.skip ?_
        refine E.QG.code ?_
        refine E.CG.seq ?_
        refine E.CG.seq ?_
        refine E.CG.list ?_
        refine E.GL.run rfl rfl rfl (E.Runs.move rfl rfl) ?_
        refine E.GL.run rfl rfl rfl (E.Runs.neq rfl rfl rfl (E.ne_f rfl)) ?_
        refine E.GL.run rfl rfl rfl (E.Runs.move rfl rfl) ?_
        refine E.GL.run rfl rfl rfl (E.Runs.loads (cs := [.int .i64 V.d, .slice m.A V.rs.length m.a, .int .i64 V.h, .slice m.B V.fs.length m.b, .slice m.C V.ds.length m.c]) rfl rfl hu26 rfl info26s (blk_cells b2)) ?_
        refine E.GL.run rfl rfl rfl (E.Runs.move rfl rfl) ?_
        refine E.GL.st rfl rfl rfl (E.ST.call rfl ent24 (E.evc rfl (E.evc rfl E.evn)) ((isProgram_r V m q A34 k34 _ (hV.below L) hs (Kd.C_below hqC lz) (by omega) ok.s true (iff_of_true rfl hQ)).mono ?_))
        rintro e w77 ⟨rfl, l77⟩
        refine ⟨_, rfl, ?_⟩
        replace b2 := blk_below b2 l77
        replace R40 := Kd.R_below R40 l77
        replace L := below_step L l77
        replace lz := below_step lz l77
        refine E.GL.run rfl rfl rfl (E.Runs.not rfl rfl) ?_
        refine E.GL.run rfl rfl rfl (E.Runs.pick_f rfl rfl rfl) ?_
        refine E.GL.run rfl rfl rfl (E.Runs.move rfl rfl) ?_
        refine E.GL.run rfl rfl rfl (E.Runs.move rfl rfl) ?_
        refine E.GL.run rfl rfl rfl (E.Runs.len rfl rfl hu22) ?_
        refine E.GL.cmp rfl rfl rfl (fun _ h => (E.Runs.eql rfl rfl rfl h)) (fun h83 => ?_) (fun h83 => ?_)
        · have hle := hmx.2 p h23 (brA_nil ok h23 (by omega))
          refine E.GL.run rfl rfl rfl (E.Runs.move rfl rfl) ?_
          refine E.GL.run rfl rfl rfl (E.Runs.move rfl rfl) ?_
          refine E.GL.run rfl rfl rfl (E.Runs.move rfl rfl) ?_
          refine E.GL.run rfl rfl rfl (E.Runs.gtr rfl rfl rfl (decide_eq_false (by rw [tkA_yes ok h23]; omega))) ?_
          refine E.GL.run rfl rfl rfl (E.Runs.pick_t rfl rfl rfl) ?_
          refine E.GL.run rfl rfl rfl (E.Runs.pick_f rfl rfl rfl) ?_
          refine E.GL.done ?_
          refine E.QG.code ?_
          refine E.CG.cond_f rfl ?_
          refine E.CG.skip ?_
          refine E.QG.code ?_
          refine E.CG.seq ?_
          refine E.CG.list ?_
          refine E.GL.run rfl rfl rfl (E.Runs.loads (cs := [.int .i64 V.d, .slice m.A V.rs.length m.a, .int .i64 V.h, .slice m.B V.fs.length m.b, .slice m.C V.ds.length m.c]) rfl rfl hu26 rfl info26s (blk_cells b2)) ?_
          refine E.GL.run rfl rfl rfl (E.Runs.move rfl rfl) ?_
          refine E.GL.st rfl rfl rfl (E.ST.call rfl ent25 (E.evc rfl (E.evc rfl E.evn)) ((broken_o V m q A34 k34 _ (hV.below L) hs (Kd.C_below hqC lz) (by omega)).mono ?_))
          rintro e w93 ⟨v93, rfl, R93, l93⟩
          refine ⟨_, rfl, ?_⟩
          replace b2 := blk_below b2 l93
          replace R40 := Kd.R_below R40 l93
          replace L := below_step L l93
          replace lz := below_step lz l93
          obtain ⟨A93, c93, hv93⟩ := Kd.R_slice R93
          subst hv93
          refine E.GL.run rfl rfl rfl (E.Runs.move rfl rfl) ?_
          refine E.GL.run rfl rfl rfl (E.Runs.extract rfl rfl rfl) ?_
          refine E.GL.run rfl rfl rfl (E.Runs.extract rfl rfl rfl) ?_
          refine E.GL.run rfl rfl rfl (E.Runs.assign rfl rfl) ?_
          refine E.GL.run rfl rfl rfl (E.Runs.assign rfl rfl) ?_
          refine E.GL.done ?_
          refine E.QG.code ?_
          refine E.CG.seq ?_
          refine E.CG.list ?_
          refine E.GL.run rfl rfl rfl (E.Runs.loads (cs := [.int .i64 V.d, .slice m.A V.rs.length m.a, .int .i64 V.h, .slice m.B V.fs.length m.b, .slice m.C V.ds.length m.c]) rfl rfl hu26 rfl info26s (blk_cells b2)) ?_
          refine E.GL.run rfl rfl rfl (E.Runs.move rfl rfl) ?_
          refine E.GL.st rfl rfl rfl (E.ST.call rfl ent32 (E.evc rfl (E.evc rfl E.evn)) ((takingsP_o V m q A34 k34 _ (hV.below L) hs (Kd.C_below hqC lz) (by omega)).mono ?_))
          rintro e w99 ⟨rfl, l99⟩
          refine ⟨_, rfl, ?_⟩
          replace b2 := blk_below b2 l99
          replace R40 := Kd.R_below R40 l99
          replace R93 := Kd.R_below R93 l99
          replace L := below_step L l99
          replace lz := below_step lz l99
          refine E.GL.run rfl rfl rfl (E.Runs.move rfl rfl) ?_
          refine E.GL.run rfl rfl rfl (E.Runs.extract rfl rfl rfl) ?_
          refine E.GL.run rfl rfl rfl (E.Runs.extract rfl rfl rfl) ?_
          refine E.GL.run rfl rfl rfl (E.Runs.assign rfl rfl) ?_
          refine E.GL.run rfl rfl rfl (E.Runs.assign rfl rfl) ?_
          refine E.GL.done ?_
          refine E.QG.code ?_
          refine E.CG.seq ?_
          refine E.CG.list ?_
          refine E.GL.run rfl rfl rfl (E.Runs.move rfl rfl) ?_
          refine E.GL.run rfl rfl rfl (E.Runs.eql rfl rfl rfl (decide_eq_true (chkP_yes ok hQ))) ?_
          refine E.GL.run rfl rfl rfl (E.Runs.move rfl rfl) ?_
          refine E.GL.run rfl rfl rfl (E.Runs.move rfl rfl) ?_
          refine E.GL.run rfl rfl rfl (E.Runs.eql rfl rfl rfl (decide_eq_true (chkP_yes ok hQ))) ?_
          refine E.GL.run rfl rfl rfl (E.Runs.pick_t rfl rfl rfl) ?_
          refine E.GL.run rfl rfl rfl (E.Runs.move rfl rfl) ?_
          refine E.GL.run rfl rfl rfl (E.Runs.move rfl rfl) ?_
          refine E.GL.run rfl rfl rfl (E.Runs.len rfl rfl hu22) ?_
          refine E.GL.run rfl rfl rfl (E.Runs.eql rfl rfl rfl (decide_eq_true (by rw [brA_keeps ok hQ hK]; rfl))) ?_
          refine E.GL.run rfl rfl rfl (E.Runs.pick_t rfl rfl rfl) ?_
          refine E.GL.run rfl rfl rfl (E.Runs.move rfl rfl) ?_
          refine E.GL.run rfl rfl rfl (E.Runs.move rfl rfl) ?_
          refine E.GL.run rfl rfl rfl (E.Runs.move rfl rfl) ?_
          refine E.GL.run rfl rfl rfl (E.Runs.eql rfl rfl rfl (decide_eq_true (tkA_yes ok hQ))) ?_
          refine E.GL.run rfl rfl rfl (E.Runs.pick_t rfl rfl rfl) ?_
          refine E.GL.run rfl rfl rfl (E.Runs.move rfl rfl) ?_
          refine E.GL.st rfl rfl rfl (E.ST.call rfl ent13 E.evn ((works_calls _).mono ?_))
          rintro e w119 ⟨rfl, l119⟩
          refine ⟨_, rfl, ?_⟩
          replace b2 := blk_below b2 l119
          replace R40 := Kd.R_below R40 l119
          replace R93 := Kd.R_below R93 l119
          replace L := below_step L l119
          replace lz := below_step lz l119
          refine E.GL.run rfl rfl rfl (E.Runs.pick_t rfl rfl rfl) ?_
          refine E.GL.run rfl rfl rfl (E.Runs.assign rfl rfl) ?_
          refine E.GL.done ?_
          refine E.QG.code ?_
          refine E.CG.ret ?_
          exact E.QG.result rfl rfl ⟨rfl, L⟩
        · refine E.GL.run rfl rfl rfl (E.Runs.move rfl rfl) ?_
          refine E.GL.skip rfl rfl rfl ?_
          refine E.GL.skip rfl rfl rfl ?_
          refine E.GL.skip rfl rfl rfl ?_
          refine E.GL.run rfl rfl rfl (E.Runs.pick_f rfl rfl rfl) ?_
          refine E.GL.run rfl rfl rfl (E.Runs.pick_f rfl rfl rfl) ?_
          refine E.GL.done ?_
          refine E.QG.code ?_
          refine E.CG.cond_f rfl ?_
          refine E.CG.skip ?_
          refine E.QG.code ?_
          refine E.CG.seq ?_
          refine E.CG.list ?_
          refine E.GL.run rfl rfl rfl (E.Runs.loads (cs := [.int .i64 V.d, .slice m.A V.rs.length m.a, .int .i64 V.h, .slice m.B V.fs.length m.b, .slice m.C V.ds.length m.c]) rfl rfl hu26 rfl info26s (blk_cells b2)) ?_
          refine E.GL.run rfl rfl rfl (E.Runs.move rfl rfl) ?_
          refine E.GL.st rfl rfl rfl (E.ST.call rfl ent25 (E.evc rfl (E.evc rfl E.evn)) ((broken_o V m q A34 k34 _ (hV.below L) hs (Kd.C_below hqC lz) (by omega)).mono ?_))
          rintro e w93 ⟨v93, rfl, R93, l93⟩
          refine ⟨_, rfl, ?_⟩
          replace b2 := blk_below b2 l93
          replace R40 := Kd.R_below R40 l93
          replace L := below_step L l93
          replace lz := below_step lz l93
          obtain ⟨A93, c93, hv93⟩ := Kd.R_slice R93
          subst hv93
          refine E.GL.run rfl rfl rfl (E.Runs.move rfl rfl) ?_
          refine E.GL.run rfl rfl rfl (E.Runs.extract rfl rfl rfl) ?_
          refine E.GL.run rfl rfl rfl (E.Runs.extract rfl rfl rfl) ?_
          refine E.GL.run rfl rfl rfl (E.Runs.assign rfl rfl) ?_
          refine E.GL.run rfl rfl rfl (E.Runs.assign rfl rfl) ?_
          refine E.GL.done ?_
          refine E.QG.code ?_
          refine E.CG.seq ?_
          refine E.CG.list ?_
          refine E.GL.run rfl rfl rfl (E.Runs.loads (cs := [.int .i64 V.d, .slice m.A V.rs.length m.a, .int .i64 V.h, .slice m.B V.fs.length m.b, .slice m.C V.ds.length m.c]) rfl rfl hu26 rfl info26s (blk_cells b2)) ?_
          refine E.GL.run rfl rfl rfl (E.Runs.move rfl rfl) ?_
          refine E.GL.st rfl rfl rfl (E.ST.call rfl ent32 (E.evc rfl (E.evc rfl E.evn)) ((takingsP_o V m q A34 k34 _ (hV.below L) hs (Kd.C_below hqC lz) (by omega)).mono ?_))
          rintro e w99 ⟨rfl, l99⟩
          refine ⟨_, rfl, ?_⟩
          replace b2 := blk_below b2 l99
          replace R40 := Kd.R_below R40 l99
          replace R93 := Kd.R_below R93 l99
          replace L := below_step L l99
          replace lz := below_step lz l99
          refine E.GL.run rfl rfl rfl (E.Runs.move rfl rfl) ?_
          refine E.GL.run rfl rfl rfl (E.Runs.extract rfl rfl rfl) ?_
          refine E.GL.run rfl rfl rfl (E.Runs.extract rfl rfl rfl) ?_
          refine E.GL.run rfl rfl rfl (E.Runs.assign rfl rfl) ?_
          refine E.GL.run rfl rfl rfl (E.Runs.assign rfl rfl) ?_
          refine E.GL.done ?_
          refine E.QG.code ?_
          refine E.CG.seq ?_
          refine E.CG.list ?_
          refine E.GL.run rfl rfl rfl (E.Runs.move rfl rfl) ?_
          refine E.GL.run rfl rfl rfl (E.Runs.eql rfl rfl rfl (decide_eq_true (chkP_yes ok hQ))) ?_
          refine E.GL.run rfl rfl rfl (E.Runs.move rfl rfl) ?_
          refine E.GL.run rfl rfl rfl (E.Runs.move rfl rfl) ?_
          refine E.GL.run rfl rfl rfl (E.Runs.eql rfl rfl rfl (decide_eq_true (chkP_yes ok hQ))) ?_
          refine E.GL.run rfl rfl rfl (E.Runs.pick_t rfl rfl rfl) ?_
          refine E.GL.run rfl rfl rfl (E.Runs.move rfl rfl) ?_
          refine E.GL.run rfl rfl rfl (E.Runs.move rfl rfl) ?_
          refine E.GL.run rfl rfl rfl (E.Runs.len rfl rfl hu22) ?_
          refine E.GL.run rfl rfl rfl (E.Runs.eql rfl rfl rfl (decide_eq_true (by rw [brA_keeps ok hQ hK]; rfl))) ?_
          refine E.GL.run rfl rfl rfl (E.Runs.pick_t rfl rfl rfl) ?_
          refine E.GL.run rfl rfl rfl (E.Runs.move rfl rfl) ?_
          refine E.GL.run rfl rfl rfl (E.Runs.move rfl rfl) ?_
          refine E.GL.run rfl rfl rfl (E.Runs.move rfl rfl) ?_
          refine E.GL.run rfl rfl rfl (E.Runs.eql rfl rfl rfl (decide_eq_true (tkA_yes ok hQ))) ?_
          refine E.GL.run rfl rfl rfl (E.Runs.pick_t rfl rfl rfl) ?_
          refine E.GL.run rfl rfl rfl (E.Runs.move rfl rfl) ?_
          refine E.GL.st rfl rfl rfl (E.ST.call rfl ent13 E.evn ((works_calls _).mono ?_))
          rintro e w119 ⟨rfl, l119⟩
          refine ⟨_, rfl, ?_⟩
          replace b2 := blk_below b2 l119
          replace R40 := Kd.R_below R40 l119
          replace R93 := Kd.R_below R93 l119
          replace L := below_step L l119
          replace lz := below_step lz l119
          refine E.GL.run rfl rfl rfl (E.Runs.pick_t rfl rfl rfl) ?_
          refine E.GL.run rfl rfl rfl (E.Runs.assign rfl rfl) ?_
          refine E.GL.done ?_
          refine E.QG.code ?_
          refine E.CG.ret ?_
          exact E.QG.result rfl rfl ⟨rfl, L⟩
    · refine E.GL.st rfl rfl rfl (E.ST.call rfl ent24 (E.evc rfl (E.evc rfl E.evn)) ((isProgram_any V m p A c _ (hV.below L) hs (Kd.C_below hp L) hpm ok.s false (iff_of_false Bool.false_ne_true h23)).mono ?_))
      rintro e w23 ⟨rfl, l23⟩
      refine ⟨_, rfl, ?_⟩
      replace b2 := blk_below b2 l23
      replace L := below_step L l23
      refine E.GL.run rfl rfl rfl (E.Runs.not rfl rfl) ?_
      refine E.GL.run rfl rfl rfl (E.Runs.pick_f rfl rfl rfl) ?_
      refine E.GL.done ?_
      refine E.QG.code ?_
      refine E.CG.cond_t rfl ?_
      refine E.CG.seq ?_
      refine E.CG.list ?_
      refine E.GL.st rfl rfl rfl (E.ST.call rfl ent13 E.evn ((works_calls _).mono ?_))
      rintro e w26 ⟨rfl, l26⟩
      refine ⟨_, rfl, ?_⟩
      replace b2 := blk_below b2 l26
      replace L := below_step L l26
      refine E.GL.run rfl rfl rfl (E.Runs.assign rfl rfl) ?_
      refine E.GL.done ?_
      refine E.QG.code ?_
      refine E.CG.ret ?_
      refine E.QG.pass_ret ?_
      exact E.QG.result rfl rfl ⟨rfl, L⟩
  · refine E.GL.st rfl rfl rfl (E.ST.call rfl ent22 (E.evc rfl E.evn) ((ready_calls V m _ (hV.below L) false (iff_of_false Bool.false_ne_true h18)).mono ?_))
    rintro e w18 ⟨rfl, l18⟩
    refine ⟨_, rfl, ?_⟩
    replace b2 := blk_below b2 l18
    replace L := below_step L l18
    refine E.GL.run rfl rfl rfl (E.Runs.not rfl rfl) ?_
    refine E.GL.run rfl rfl rfl (E.Runs.move rfl rfl) ?_
    refine E.GL.skip rfl rfl rfl ?_
    refine E.GL.skip rfl rfl rfl ?_
    refine E.GL.skip rfl rfl rfl ?_
    refine E.GL.skip rfl rfl rfl ?_
    refine E.GL.run rfl rfl rfl (E.Runs.pick_t rfl rfl rfl) ?_
    refine E.GL.done ?_
    refine E.QG.code ?_
    refine E.CG.cond_t rfl ?_
    refine E.CG.seq ?_
    refine E.CG.list ?_
    refine E.GL.st rfl rfl rfl (E.ST.call rfl ent13 E.evn ((works_calls _).mono ?_))
    rintro e w26 ⟨rfl, l26⟩
    refine ⟨_, rfl, ?_⟩
    replace b2 := blk_below b2 l26
    replace L := below_step L l26
    refine E.GL.run rfl rfl rfl (E.Runs.assign rfl rfl) ?_
    refine E.GL.done ?_
    refine E.QG.code ?_
    refine E.CG.ret ?_
    refine E.QG.pass_ret ?_
    exact E.QG.result rfl rfl ⟨rfl, L⟩

end Go.Proofs.Ytdiambcjghlffaa.T
